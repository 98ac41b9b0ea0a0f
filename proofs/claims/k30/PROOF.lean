import PyProof.Rows.All
import Wide.All
import OpenK.AllK
import Wide.FinOn
import HandS.ForMost
import HandS.ForExc
import HandS.IsInst
import HandS.Walk
import HandS.Wide
import HandS.TupAny
import KE.GoesEnum
import PySem.Challenge.RW_weftmill_k30_places_of_the_yarn
set_option Elab.async false
set_option linter.all false
set_option autoImplicit false
set_option maxRecDepth 100000
set_option maxHeartbeats 4000000
/-! DLa: the data layer, part one: what a frame holds, told as plain data. -/
namespace DL
open PySem L2

abbrev St := L2.St
/-! ### data in a heap -/
def keyD : Key → PyData
  | .inl i => .int i
  | .inr x => .str x
def dicK (kvs : List (Key × V)) : List (PyData × V) := kvs.map fun q => (keyD q.1, q.2)
def dicT (kvs : List (List Key × V)) : List (PyData × V) := kvs.map fun q => (.tuple (q.1.map keyD), q.2)
/- a value is such data; F: the objects that stay as they are -/
mutual
inductive Rp (K : PySem.W.Frag) (F : Hp) : V → PyData → Prop
  | non : Rp K F .non .none
  | bl (b : Bool) : Rp K F (.bl b) (.bool b)
  | int (i : Int) : Rp K F (.int i) (.int i)
  | str (x : Str) : Rp K F (.str x) (.str x)
  | lst {a : Addr} {xs : List V} {ds : List PyData} : SqL K F a xs → Rps K F xs ds → Rp K F (.ref a) (.list ds)
  | tup {a : Addr} {xs : List V} {ds : List PyData} : SqT K F a xs → Rps K F xs ds → Rp K F (.ref a) (.tuple ds)
  | dik {a : Addr} {kvs : List (Key × V)} {ds : List (PyData × PyData)} : F a = some (.dK kvs) → Rpk K F (dicK kvs) ds → Rp K F (.ref a) (.dict ds)
  | dit {a : Addr} {kvs : List (List Key × V)} {ds : List (PyData × PyData)} : F a = some (.dT kvs) → Rpk K F (dicT kvs) ds → Rp K F (.ref a) (.dict ds)
inductive Rps (K : PySem.W.Frag) (F : Hp) : List V → List PyData → Prop
  | nil : Rps K F [] []
  | cons {v : V} {vs : List V} {d : PyData} {ds : List PyData} : Rp K F v d → Rps K F vs ds → Rps K F (v :: vs) (d :: ds)
inductive Rpk (K : PySem.W.Frag) (F : Hp) : List (PyData × V) → List (PyData × PyData) → Prop
  | nil : Rpk K F [] []
  | cons {k : PyData} {v : V} {vs : List (PyData × V)} {d : PyData} {ds : List (PyData × PyData)} : Rp K F v d → Rpk K F vs ds → Rpk K F ((k, v) :: vs) ((k, d) :: ds)
end
theorem sameT {K : PySem.W.Frag} {F H : Hp} (g : Same F H) {a : Addr} {vs : List V} (h : SqT K F a vs) : SqT K H a vs := by
  rcases h with (h | ⟨o, h⟩) | h
  · exact .inl (.inl (g _ _ h))
  · exact .inl (.inr ⟨o, g _ _ h⟩)
  · exact .inr h
theorem sameR {F H : Hp} (g : Same F H) {a : Addr} {o : HO} (h : Rd F a o) : Rd H a o := by
  rcases h with h | ⟨w, h⟩
  · exact .inl (g _ _ h)
  · exact .inr ⟨w, g _ _ h⟩
mutual
theorem rpM {K : PySem.W.Frag} {F G : Hp} (s : Same F G) : ∀ {v : V} {d : PyData}, Rp K F v d → Rp K G v d
  | _, _, .non => .non
  | _, _, .bl b => .bl b
  | _, _, .int i => .int i
  | _, _, .str x => .str x
  | _, _, .lst h t => .lst (s.seq h) (rpsM s t)
  | _, _, .tup h t => .tup (sameT s h) (rpsM s t)
  | _, _, .dik h t => .dik (s _ _ h) (rpkM s t)
  | _, _, .dit h t => .dit (s _ _ h) (rpkM s t)
theorem rpsM {K : PySem.W.Frag} {F G : Hp} (s : Same F G) : ∀ {vs : List V} {ds : List PyData}, Rps K F vs ds → Rps K G vs ds
  | _, _, .nil => .nil
  | _, _, .cons h t => .cons (rpM s h) (rpsM s t)
theorem rpkM {K : PySem.W.Frag} {F G : Hp} (s : Same F G) : ∀ {vs : List (PyData × V)} {ds : List (PyData × PyData)}, Rpk K F vs ds → Rpk K G vs ds
  | _, _, .nil => .nil
  | _, _, .cons h t => .cons (rpM s h) (rpkM s t)
end
/-- what stays stands in H, a dict perhaps locked -/
def isDic : HO → Prop
  | .dK _ => True
  | .dT _ => True
  | _ => False
def Sub (F H : Hp) : Prop := ∀ a o, F a = some o → H a = some o ∨ (isDic o ∧ ∃ w, H a = some (.frz w o))
theorem Sub.free {F H : Hp} (e : Sub F H) {l : Addr} (h : H l = none) : F l = none := by
  cases q : F l with
  | none => rfl
  | some o =>
    rcases e l o q with z | ⟨_, w, z⟩
    · rw [h] at z; cases z
    · rw [h] at z; cases z
theorem Sub.rd {F H : Hp} (g : Sub F H) {a : Addr} {vs : List V} (h : Rd F a (.lst vs)) : Rd H a (.lst vs) := by
  rcases h with h | ⟨o, h⟩
  · rcases g _ _ h with z | ⟨z, _⟩
    · exact .inl z
    · exact z.elim
  · rcases g _ _ h with z | ⟨z, _⟩
    · exact .inr ⟨o, z⟩
    · exact z.elim
theorem Sub.seq {K : PySem.W.Frag} {F H : Hp} (g : Sub F H) {a : Addr} {vs : List V} (h : SqL K F a vs) : SqL K H a vs := by
  rcases h with (h | ⟨o, h⟩) | h
  · rcases g _ _ h with z | ⟨z, _⟩
    · exact .inl (.inl z)
    · exact z.elim
  · rcases g _ _ h with z | ⟨z, _⟩
    · exact .inl (.inr ⟨o, z⟩)
    · exact z.elim
  · exact .inr h
theorem Sub.tup {K : PySem.W.Frag} {F H : Hp} (g : Sub F H) {a : Addr} {vs : List V} (h : SqT K F a vs) : SqT K H a vs := by
  rcases h with (h | ⟨o, h⟩) | h
  · rcases g _ _ h with z | ⟨z, _⟩
    · exact .inl (.inl z)
    · exact z.elim
  · rcases g _ _ h with z | ⟨z, _⟩
    · exact .inl (.inr ⟨o, z⟩)
    · exact z.elim
  · exact .inr h
mutual
def noDic : PyData → Bool
  | .list xs => noDics xs
  | .tuple xs => noDics xs
  | .dict _ => false
  | _ => true
def noDics : List PyData → Bool
  | [] => true
  | x :: xs => noDic x && noDics xs
end
/- data without dicts, as the kit's rules have it -/
mutual
theorem toDp {K : PySem.W.Frag} {F H : Hp} (g : Sub F H) : ∀ {v : V} {d : PyData}, Rp K F v d → noDic d = true → Dp K H v d
  | _, _, .non, _ => .non
  | _, _, .bl b, _ => .bl b
  | _, _, .int i, _ => .int i
  | _, _, .str x, _ => .str x
  | _, _, .lst h t, n => .lst (g.seq h) (toDps g t (by unfold noDic at n; exact n))
  | _, _, .tup h t, n => .tup (g.tup h) (toDps g t (by unfold noDic at n; exact n))
  | _, _, .dik _ _, n => by unfold noDic at n; cases n
  | _, _, .dit _ _, n => by unfold noDic at n; cases n
theorem toDps {K : PySem.W.Frag} {F H : Hp} (g : Sub F H) : ∀ {vs : List V} {ds : List PyData}, Rps K F vs ds → noDics ds = true → DpAll K H vs ds
  | _, _, .nil, _ => .nil
  | _, _, .cons h t, n => by
    unfold noDics at n
    rw [Bool.and_eq_true] at n
    exact .cons (toDp g h n.1) (toDps g t n.2)
end
section
variable {K : PySem.W.Frag} {F G H : Hp} {vs ws : List V} {ds es : List PyData} {v : V} {d : PyData}
theorem rps_len : ∀ {vs : List V} {ds : List PyData}, Rps K F vs ds → vs.length = ds.length
  | _, _, .nil => rfl
  | _, _, .cons _ t => congrArg (· + 1) (rps_len t)
theorem rps_app : ∀ {vs : List V} {ds : List PyData}, Rps K F vs ds → Rps K F ws es → Rps K F (vs ++ ws) (ds ++ es)
  | _, _, .nil, q => q
  | _, _, .cons h t, q => .cons h (rps_app t q)
theorem rps_at : ∀ {vs : List V} {ds : List PyData} {i : Nat} {d : PyData}, Rps K F vs ds → ds[i]? = some d → ∃ v, vs[i]? = some v ∧ Rp K F v d
  | _, _, _, _, .nil, e => by simp at e
  | _, _, 0, _, .cons h _, e => by
    simp only [List.getElem?_cons_zero, Option.some.injEq] at e
    exact ⟨_, rfl, e ▸ h⟩
  | _, _, i + 1, _, .cons _ t, e => by
    simp only [List.getElem?_cons_succ] at e ⊢
    exact rps_at t e
theorem rps_at' : ∀ {vs : List V} {ds : List PyData} {i : Nat} {v : V}, Rps K F vs ds → vs[i]? = some v → ∃ d, ds[i]? = some d ∧ Rp K F v d
  | _, _, _, _, .nil, e => by simp at e
  | _, _, 0, _, .cons h _, e => by
    simp only [List.getElem?_cons_zero, Option.some.injEq] at e
    exact ⟨_, rfl, e ▸ h⟩
  | _, _, i + 1, _, .cons _ t, e => by
    simp only [List.getElem?_cons_succ] at e ⊢
    exact rps_at' t e
theorem rps_take : ∀ (n : Nat) {vs : List V} {ds : List PyData}, Rps K F vs ds → Rps K F (vs.take n) (ds.take n)
  | 0, _, _, _ => by rw [List.take_zero, List.take_zero]; exact .nil
  | _ + 1, _, _, .nil => .nil
  | n + 1, _, _, .cons h t => .cons h (rps_take n t)
theorem rps_drop : ∀ (n : Nat) {vs : List V} {ds : List PyData}, Rps K F vs ds → Rps K F (vs.drop n) (ds.drop n)
  | 0, _, _, h => h
  | _ + 1, _, _, .nil => .nil
  | n + 1, _, _, .cons _ t => rps_drop n t
theorem rps_set (h : Rp K F v d) : ∀ (n : Nat) {vs : List V} {ds : List PyData}, Rps K F vs ds → Rps K F (vs.set n v) (ds.set n d)
  | _, _, _, .nil => .nil
  | 0, _, _, .cons _ t => .cons h t
  | n + 1, _, _, .cons q t => .cons q (rps_set h n t)
theorem rps_ints : ∀ ns : List Int, Rps K F (ns.map V.int) (ns.map PyData.int)
  | [] => .nil
  | n :: r => .cons (.int n) (rps_ints r)
theorem rps_rep (h : Rp K F v d) : ∀ n : Nat, Rps K F (List.replicate n v) (List.replicate n d)
  | 0 => .nil
  | n + 1 => .cons h (rps_rep h n)
theorem rps_flat {vs : List V} {ds : List PyData} (h : Rps K F vs ds) : ∀ n : Nat, Rps K F (List.replicate n vs).flatten (List.replicate n ds).flatten
  | 0 => .nil
  | n + 1 => by
    rw [List.replicate_succ, List.replicate_succ, List.flatten_cons, List.flatten_cons]
    exact rps_app h (rps_flat h n)
theorem same_upd {p : Addr} (h : H p = none) {o : HO} : Same H (upd H p o) := fun b u e => by
  rw [upd_ne (ne_of_none e h)]
  exact e
end

/-! ### a frame's names -/
/-- what a name holds: data that stays; an object of one's own; an object lent by the caller -/
inductive Sl where
  | d (x : PyData)
  | l (x : PyData)
  | b (x : PyData)
/-- an expression's value: data that stays; what stands in slot i; a new object -/
inductive Vl where
  | d (x : PyData)
  | v (i : Nat)
  | n (x : PyData)
abbrev DEnv := List (Option Sl)
def Sl.mu : Sl → Bool
  | .d _ => false
  | _ => true
def Sl.it : Sl → PyData
  | .d x => x
  | .l x => x
  | .b x => x
def slotD (r : DEnv) (i : Nat) : Option PyData := match r[i]? with
  | some (some s) => some s.it
  | _ => none
/-- read as data -/
def rd (r : DEnv) : Vl → Option PyData
  | .d x => some x
  | .v i => slotD r i
  | .n x => some x
/-- a frame's entry -/
structure Ent where
  F0 : Hp
  H0 : Hp
  vs : List V
  bs : List Addr
def MutA (st : St) (r : DEnv) (a : Addr) : Prop := ∃ (i : Nat) (s : Sl), r[i]? = some (some s) ∧ Sl.mu s = true ∧ st[i]? = some (some (V.ref a))
/-- at p stands such an object, not among what stays -/
def ObAt (K : PySem.W.Frag) (F H : Hp) (p : Addr) : PyData → Prop
  | .list xs => ∃ vs, F p = none ∧ H p = some (.lst vs) ∧ Rps K F vs xs
  | .dict ds => F p = none ∧ ((∃ kvs, H p = some (.dK kvs) ∧ Rpk K F (dicK kvs) ds) ∨ ∃ kvs, H p = some (.dT kvs) ∧ Rpk K F (dicT kvs) ds)
  | _ => False
structure Rel (K : PySem.W.Frag) (E : Ent) (F H : Hp) (st : St) (r : DEnv) : Prop where
  sub : Sub F H
  grow : Same E.F0 F
  keep : ∀ a o, E.H0 a = some o → a ∉ E.bs → H a = some o
  ever : ∀ a o, E.H0 a = some o → ∃ u, H a = some u
  nofr : ∀ a o, E.H0 a = some o → E.F0 a = none → F a = none
  len : st.length = r.length
  dat : ∀ (i : Nat) (x : PyData), r[i]? = some (some (Sl.d x)) → ∃ v, st[i]? = some (some v) ∧ Rp K F v x
  own : ∀ (i : Nat) (x : PyData), r[i]? = some (some (Sl.l x)) → ∃ p, st[i]? = some (some (V.ref p)) ∧ E.H0 p = none ∧ ObAt K F H p x
  bor : ∀ (i : Nat) (x : PyData), r[i]? = some (some (Sl.b x)) → ∃ p, st[i]? = some (some (V.ref p)) ∧ E.vs[i]? = some (V.ref p) ∧ p ∈ E.bs ∧ ObAt K F H p x
  sep : ∀ (i j : Nat) (s t : Sl) (a : Addr), r[i]? = some (some s) → r[j]? = some (some t) → Sl.mu s = true → Sl.mu t = true → st[i]? = some (some (V.ref a)) → st[j]? = some (some (V.ref a)) → i = j
/-- what an expression does to the heaps -/
structure Stp (F H F' H' : Hp) (M : Addr → Prop) : Prop where
  gf : Same F F'
  keep : ∀ a o, H a = some o → ¬ M a → H' a = some o
  ever : ∀ a o, H a = some o → ∃ u, H' a = some u
  nofr : ∀ a o, H a = some o → F a = none → ¬ M a → F' a = none
structure Aft (K : PySem.W.Frag) (E : Ent) (F H : Hp) (st : St) (r : DEnv) (F' H' : Hp) (r' : DEnv) : Prop where
  rel : Rel K E F' H' st r'
  stp : Stp F H F' H' (MutA st r)
  mu : ∀ a, MutA st r' a → MutA st r a
def VlOk (K : PySem.W.Frag) (F H : Hp) (st : St) (r : DEnv) (v : V) : Vl → Prop
  | .d x => Rp K F v x
  | .v i => st[i]? = some (some v)
  | .n x => ∃ p, v = .ref p ∧ ObAt K F H p x ∧ ¬ MutA st r p
/-- what is new was not there -/
def New (H : Hp) (v : V) : Vl → Prop
  | .n _ => ∀ p, v = .ref p → H p = none
  | _ => True

section
variable {K : PySem.W.Frag} {E : Ent} {F H F' H' F2 H2 : Hp} {st : St} {r r' r2 : DEnv} {v : V} {s : Vl} {x : PyData} {p : Addr} {o : HO}
theorem ObAt.some (h : ObAt K F H p x) : (∃ u, H p = .some u) ∧ F p = none := by
  cases x with
  | list xs => obtain ⟨vs, a, b, _⟩ := h; exact ⟨⟨_, b⟩, a⟩
  | dict ds =>
    obtain ⟨a, ⟨kvs, b, _⟩ | ⟨kvs, b, _⟩⟩ := h
    · exact ⟨⟨_, b⟩, a⟩
    · exact ⟨⟨_, b⟩, a⟩
  | none => exact h.elim
  | bool _ => exact h.elim
  | int _ => exact h.elim
  | str _ => exact h.elim
  | tuple _ => exact h.elim
theorem ObAt.mono (g : Same F F') (f : F' p = none) (e : ∀ o, H p = .some o → H' p = .some o) (h : ObAt K F H p x) : ObAt K F' H' p x := by
  cases x with
  | list xs => obtain ⟨vs, a, b, c⟩ := h; exact ⟨vs, f, e _ b, rpsM g c⟩
  | dict ds =>
    obtain ⟨a, ⟨kvs, b, c⟩ | ⟨kvs, b, c⟩⟩ := h
    · exact ⟨f, .inl ⟨kvs, e _ b, rpkM g c⟩⟩
    · exact ⟨f, .inr ⟨kvs, e _ b, rpkM g c⟩⟩
  | none => exact h.elim
  | bool _ => exact h.elim
  | int _ => exact h.elim
  | str _ => exact h.elim
  | tuple _ => exact h.elim
theorem Rel.mutIn (R : Rel K E F H st r) (m : MutA st r p) : (∃ u, H p = some u) ∧ F p = none := by
  obtain ⟨i, s, h1, h2, h3⟩ := m
  cases s with
  | d x => cases h2
  | l x =>
    obtain ⟨q, e, _, z⟩ := R.own i x h1
    rw [h3] at e
    cases e
    exact z.some
  | b x =>
    obtain ⟨q, e, _, _, z⟩ := R.bor i x h1
    rw [h3] at e
    cases e
    exact z.some
theorem Rel.fresh0 (R : Rel K E F H st r) (n : H p = none) : E.H0 p = none := by
  cases q : E.H0 p with
  | none => rfl
  | some u =>
    obtain ⟨w, z⟩ := R.ever p u q
    rw [n] at z
    cases z
theorem VlOk.aft (A : Aft K E F H st r F' H' r') (h : VlOk K F H st r v s) : VlOk K F' H' st r' v s := by
  cases s with
  | d x => exact rpM A.stp.gf h
  | v i => exact h
  | n x =>
    obtain ⟨p, e, o, m⟩ := h
    obtain ⟨⟨u, hu⟩, f⟩ := o.some
    exact ⟨p, e, o.mono A.stp.gf (A.stp.nofr p u hu f m) (fun w q => A.stp.keep p w q m), fun z => m (A.mu p z)⟩
theorem Stp.refl (M : Addr → Prop) : Stp F H F H M := ⟨Same.refl _, fun _ _ e _ => e, fun _ o e => ⟨o, e⟩, fun _ _ _ e _ => e⟩
theorem Aft.refl (R : Rel K E F H st r) : Aft K E F H st r F H r := ⟨R, .refl _, fun _ h => h⟩
theorem Aft.trans (A : Aft K E F H st r F' H' r') (B : Aft K E F' H' st r' F2 H2 r2) : Aft K E F H st r F2 H2 r2 := by
  refine ⟨B.rel, ⟨A.stp.gf.trans B.stp.gf, fun a o e m => ?_, fun a o e => ?_, fun a o e n m => ?_⟩, fun a m => A.mu a (B.mu a m)⟩
  · exact B.stp.keep a o (A.stp.keep a o e m) fun m' => m (A.mu a m')
  · obtain ⟨u, e1⟩ := A.stp.ever a o e
    exact B.stp.ever a u e1
  · exact B.stp.nofr a o (A.stp.keep a o e m) (A.stp.nofr a o e n m) fun m' => m (A.mu a m')
theorem Aft.newBack (A : Aft K E F H st r F' H' r') (h : New H' v s) : New H v s := by
  cases s with
  | d x => trivial
  | v i => trivial
  | n x =>
    intro p e
    cases q : H p with
    | none => rfl
    | some u =>
      obtain ⟨w, z⟩ := A.stp.ever p u q
      rw [h p e] at z
      cases z
/-- read: an object's top may be one's own, what is within stays -/
def Rdv (K : PySem.W.Frag) (F H : Hp) (v : V) (x : PyData) : Prop := Rp K F v x ∨ ∃ p, v = .ref p ∧ ObAt K F H p x
theorem Rel.read (R : Rel K E F H st r) (h : VlOk K F H st r v s) (e : rd r s = some x) : Rdv K F H v x := by
  cases s with
  | d y =>
    cases (show some y = some x from e)
    exact .inl h
  | n y =>
    cases (show some y = some x from e)
    obtain ⟨p, e1, e2, _⟩ := h
    exact .inr ⟨p, e1, e2⟩
  | v i =>
    have e : (match r[i]? with
      | some (some s) => some s.it
      | _ => none) = some x := e
    have h : st[i]? = some (some v) := h
    split at e
    · rename_i t q
      cases t with
      | d y =>
        cases (show some y = some x from e)
        obtain ⟨w, e1, q1⟩ := R.dat i _ q
        rw [h] at e1
        cases e1
        exact .inl q1
      | l y =>
        cases (show some y = some x from e)
        obtain ⟨p, e1, _, q1⟩ := R.own i _ q
        rw [h] at e1
        cases e1
        exact .inr ⟨p, rfl, q1⟩
      | b y =>
        cases (show some y = some x from e)
        obtain ⟨p, e1, _, _, q1⟩ := R.bor i _ q
        rw [h] at e1
        cases e1
        exact .inr ⟨p, rfl, q1⟩
    · cases e
/-- a sequence that is read: its items stay -/
theorem Rdv.seq {xs : List PyData} (g : Sub F H) (h : Rdv K F H v (.list xs)) : ∃ p vs, v = .ref p ∧ SqL K H p vs ∧ Rps K F vs xs := by
  rcases h with h | ⟨p, rfl, vs, a, b, c⟩
  · cases h with
    | lst a b => exact ⟨_, _, rfl, g.seq a, b⟩
  · exact ⟨p, vs, rfl, SqL.of b, c⟩
theorem Rdv.tup {xs : List PyData} (g : Sub F H) (h : Rdv K F H v (.tuple xs)) : ∃ p vs, v = .ref p ∧ SqT K H p vs ∧ Rps K F vs xs := by
  rcases h with h | ⟨p, rfl, z⟩
  · cases h with
    | tup a b => exact ⟨_, _, rfl, g.tup a, b⟩
  · exact z.elim
theorem Rdv.int {i : Int} (h : Rdv K F H v (.int i)) : v = .int i := by
  rcases h with h | ⟨p, rfl, z⟩
  · cases h; rfl
  · exact z.elim
theorem Rdv.str {i : Str} (h : Rdv K F H v (.str i)) : v = .str i := by
  rcases h with h | ⟨p, rfl, z⟩
  · cases h; rfl
  · exact z.elim
theorem Rdv.bl {i : Bool} (h : Rdv K F H v (.bool i)) : v = .bl i := by
  rcases h with h | ⟨p, rfl, z⟩
  · cases h; rfl
  · exact z.elim
theorem Rdv.non (h : Rdv K F H v .none) : v = .non := by
  rcases h with h | ⟨p, rfl, z⟩
  · cases h; rfl
  · exact z.elim
theorem Rdv.dp (g : Sub F H) (n : noDic x = true) (h : Rdv K F H v x) : Dp K H v x := by
  rcases h with h | ⟨p, rfl, z⟩
  · exact toDp g h n
  · cases x with
    | list xs =>
      obtain ⟨vs, a, b, c⟩ := z
      unfold noDic at n
      exact .lst (SqL.of b) (toDps g c n)
    | dict ds => unfold noDic at n; cases n
    | none => exact z.elim
    | bool _ => exact z.elim
    | int _ => exact z.elim
    | str _ => exact z.elim
    | tuple _ => exact z.elim
/-- a new object that stays -/
theorem Rel.new (R : Rel K E F H st r) (n : H p = none) : Aft K E F H st r (upd F p o) (upd H p o) r := by
  have nF : F p = none := R.sub.free n
  have gF : Same F (upd F p o) := same_upd nF
  have gH : Same H (upd H p o) := same_upd n
  have ob : ∀ q x, ObAt K F H q x → ObAt K (upd F p o) (upd H p o) q x := fun q x z => by
    obtain ⟨⟨u, hu⟩, f⟩ := z.some
    exact z.mono gF (by rw [upd_ne (ne_of_none hu n)]; exact f) fun w q => gH _ _ q
  refine ⟨⟨fun a u e => ?_, R.grow.trans gF, fun a u e m => gH _ _ (R.keep a u e m), fun a u e => ?_, fun a u e z => ?_, R.len, fun i x e => ?_, fun i x e => ?_, fun i x e => ?_, R.sep⟩,
    ⟨gF, fun a u e _ => gH _ _ e, fun a u e => ⟨u, gH _ _ e⟩, fun a u e z _ => ?_⟩, fun _ h => h⟩
  · by_cases h : a = p
    · subst h
      rw [upd_same] at e ⊢
      exact .inl e
    · rw [upd_ne h] at e ⊢
      exact R.sub a u e
  · obtain ⟨w, q⟩ := R.ever a u e
    exact ⟨w, gH _ _ q⟩
  · rw [upd_ne (fun z => by rw [z, R.fresh0 n] at e; cases e)]
    exact R.nofr a u e z
  · obtain ⟨w, q1, q2⟩ := R.dat i x e
    exact ⟨w, q1, rpM gF q2⟩
  · obtain ⟨q, q1, q2, q3⟩ := R.own i x e
    exact ⟨q, q1, q2, ob _ _ q3⟩
  · obtain ⟨q, q1, q2, q3, q4⟩ := R.bor i x e
    exact ⟨q, q1, q2, q3, ob _ _ q4⟩
  · rw [upd_ne (ne_of_none e n)]
    exact z
/-- a new object that need not stay -/
theorem Rel.newH (R : Rel K E F H st r) (n : H p = none) : Aft K E F H st r F (upd H p o) r := by
  have gH : Same H (upd H p o) := same_upd n
  have ob : ∀ q x, ObAt K F H q x → ObAt K F (upd H p o) q x := fun q x z => z.mono (Same.refl _) z.some.2 fun w q => gH _ _ q
  refine ⟨⟨fun a u e => ?_, R.grow, fun a u e m => gH _ _ (R.keep a u e m), fun a u e => ?_, R.nofr, R.len, R.dat, fun i x e => ?_, fun i x e => ?_, R.sep⟩,
    ⟨Same.refl _, fun a u e _ => gH _ _ e, fun a u e => ⟨u, gH _ _ e⟩, fun a u _ z _ => z⟩, fun _ h => h⟩
  · rcases R.sub a u e with z | ⟨z, w, q⟩
    · exact .inl (gH _ _ z)
    · exact .inr ⟨z, w, gH _ _ q⟩
  · obtain ⟨w, q⟩ := R.ever a u e
    exact ⟨w, gH _ _ q⟩
  · obtain ⟨q, q1, q2, q3⟩ := R.own i x e
    exact ⟨q, q1, q2, ob _ _ q3⟩
  · obtain ⟨q, q1, q2, q3, q4⟩ := R.bor i x e
    exact ⟨q, q1, q2, q3, ob _ _ q4⟩
theorem Rel.notMut (R : Rel K E F H st r) (n : H p = none) : ¬ MutA st r p := fun m => by
  obtain ⟨⟨u, e⟩, _⟩ := R.mutIn m
  rw [n] at e
  cases e
/-- a new list -/
theorem Rel.newL (R : Rel K E F H st r) (n : H p = none) {vs : List V} {xs : List PyData} (h : Rps K F vs xs) : Aft K E F H st r F (upd H p (.lst vs)) r ∧ VlOk K F (upd H p (.lst vs)) st r (.ref p) (.n (.list xs)) :=
  ⟨R.newH n, p, rfl, ⟨vs, R.sub.free n, upd_same, h⟩, R.notMut n⟩
/-- an object of one's own is put among what stays -/
theorem ObAt.frz (h : ObAt K F H p x) : ∃ o, H p = .some o ∧ Rp K (upd F p o) (.ref p) x := by
  cases x with
  | list xs =>
    obtain ⟨vs, a, b, c⟩ := h
    exact ⟨_, b, .lst (SqL.of upd_same) (rpsM (same_upd a) c)⟩
  | dict ds =>
    obtain ⟨a, ⟨kvs, b, c⟩ | ⟨kvs, b, c⟩⟩ := h
    · exact ⟨_, b, .dik upd_same (rpkM (same_upd a) c)⟩
    · exact ⟨_, b, .dit upd_same (rpkM (same_upd a) c)⟩
  | none => exact h.elim
  | bool _ => exact h.elim
  | int _ => exact h.elim
  | str _ => exact h.elim
  | tuple _ => exact h.elim
theorem Rel.frz (R : Rel K E F H st r) (e0 : E.H0 p = none) (f : F p = none) (e : H p = some o) (m : ¬ MutA st r p) : Rel K E (upd F p o) H st r := by
  have gF : Same F (upd F p o) := same_upd f
  have ob : ∀ q x, ObAt K F H q x → MutA st r q → ObAt K (upd F p o) H q x := fun q x z hm =>
    z.mono gF (by rw [upd_ne (show q ≠ p from fun e => m (e ▸ hm))]; exact z.some.2) fun w q => q
  refine ⟨fun a u q => ?_, R.grow.trans gF, R.keep, R.ever, fun a u q z => ?_, R.len, fun i x q => ?_, fun i x q => ?_, fun i x q => ?_, R.sep⟩
  · by_cases h : a = p
    · subst h
      rw [upd_same] at q
      cases q
      exact .inl e
    · rw [upd_ne h] at q
      exact R.sub a u q
  · rw [upd_ne (fun z => by rw [z, e0] at q; cases q)]
    exact R.nofr a u q z
  · obtain ⟨w, q1, q2⟩ := R.dat i x q
    exact ⟨w, q1, rpM gF q2⟩
  · obtain ⟨w, q1, q2, q3⟩ := R.own i x q
    exact ⟨w, q1, q2, ob _ _ q3 ⟨i, _, q, rfl, q1⟩⟩
  · obtain ⟨w, q1, q2, q3, q4⟩ := R.bor i x q
    exact ⟨w, q1, q2, q3, ob _ _ q4 ⟨i, _, q, rfl, q1⟩⟩
/-- a value that is new is put among what stays; H is the heap ahead -/
theorem Aft.frz (A : Aft K E F H st r F' H' r') (R : Rel K E F H st r) (h : VlOk K F' H' st r' v (.n x)) (n : New H v (.n x)) : ∃ F2, Aft K E F H st r F2 H' r' ∧ Same F' F2 ∧ Rp K F2 v x := by
  obtain ⟨p, rfl, z, m⟩ := h
  have n0 : H p = none := n p rfl
  obtain ⟨o, e, q⟩ := z.frz
  have f := z.some.2
  refine ⟨upd F' p o, ⟨A.rel.frz (R.fresh0 n0) f e m, ⟨A.stp.gf.trans (same_upd f), A.stp.keep, A.stp.ever, fun a u e1 e2 e3 => ?_⟩, A.mu⟩, same_upd f, q⟩
  rw [upd_ne (ne_of_none e1 n0)]
  exact A.stp.nofr a u e1 e2 e3
end
end DL
set_option Elab.async false
set_option linter.all false
set_option autoImplicit false
set_option maxRecDepth 100000
set_option maxHeartbeats 4000000
/-! DLb: the data layer, part two: promises of defs with the guards told; the judgements over data. -/
namespace DL
open PySem PySem.Spec PyProof.Rows L2

/-! ### a def's promise where no repr runs around it -/
structure FnG (P : Program) (w : World) (K : PySem.W.Frag) (mg : Str → Option Value) (base : Heap) (k : Nat) (f : Addr) (fd : FuncData) (ps : List Str) (sp : Sp) : Prop where
  len : ∀ vs H Q E, sp vs H Q E → vs.length = ps.length
  go : ∀ (A : Around) (outer : List Env) (s : Shared) (H : Hp) (args : Args) (us : List Value) (vs : List V) (Q : VK) (E : XK),
    Room k A → A.guards = some [] → Env0 P w K mg base A outer s H → BindsTo s fd args (ps.zip us) → Vals vs us → sp vs H Q E →
    codeAny (model P w) A (.call (.ref f) args) (CR (L2.CX P w) outer P w H s Q E) s
theorem FnG.up {P : Program} {w : World} {K : PySem.W.Frag} {mg : Str → Option Value} {base : Heap} {j k : Nat} {f : Addr} {fd : FuncData} {ps : List Str} {sp : Sp}
    (F : FnG P w K mg base j f fd ps sp) (h : j ≤ k) : FnG P w K mg base k f fd ps sp :=
  ⟨F.len, fun A outer s H args us vs Q E hr => F.go A outer s H args us vs Q E (hr.mono h)⟩
theorem FnG.imp {P : Program} {w : World} {K : PySem.W.Frag} {mg : Str → Option Value} {base : Heap} {k : Nat} {f : Addr} {fd : FuncData} {ps : List Str} {sp sp' : Sp}
    (F : FnG P w K mg base k f fd ps sp) (h : ∀ vs H Q E, sp' vs H Q E → sp vs H Q E) : FnG P w K mg base k f fd ps sp' :=
  ⟨fun vs H Q E q => F.len vs H Q E (h _ _ _ _ q), fun A outer s H args us vs Q E hr hg e0 hb hv hs => F.go A outer s H args us vs Q E hr hg e0 hb hv (h _ _ _ _ hs)⟩
/-- by its body -/
theorem Fun.okG {P : Program} {w : World} {K : PySem.W.Frag} {mg : Str → Option Value} {base : Heap} {x qual : Str} {st : Stmt} {f : Addr} {fd : FuncData} {N ps : List Str} {k : Nat} {sp : Sp}
    (F : Fun K x qual st f fd) (S : FnScope N ps (defScope st)) (len : ∀ vs H Q E, sp vs H Q E → vs.length = ps.length)
    (body : ∀ (cdv : Value) (A : Around) (outer : List Env) (s : Shared) (H : Hp) (vs : List V) (Q : VK) (E : XK),
      Room k (A.deeper (envOfC qual (defScope st) s.heap.objs.size f cdv)) → A.guards = some [] → sp vs H Q E →
      ∃ t, PSs (cxOf (L2.CX P w) P w K mg base N qual (defScope st) f cdv A outer s H E) (defBody st) t ∧ t { nx := fun _ H' => Q .non H', rt := Q } (start N vs) H) :
    FnG P w K mg base (k + 1) f fd ps sp := by
  obtain ⟨oc, od, kV, doc, pm, an, cdv, ct, osl, rfl, lk, hcd⟩ := F.ex
  refine ⟨len, ?_⟩
  intro A outer s H args us vs Q E hr hg e0 hb r hsp
  have KX : K.In s.heap := e0.mod.kin.keeps (fun b o e => (e0.bs b o e).1)
  have lim : s.heap.NoLimit := e0.mod.nolimit.keeps (fun b o e => (e0.bs b o e).1)
  have kinds : ∀ y ∈ ps.zip us, (defScope st).names.lookup y.1 = some .local ∨ ((defScope st).names.lookup y.1 = some .cell ∧ ((cellsFrom (s.heap.objs.size + 1) (defScope st).names []).lookup y.1).isSome = true) := by
    intro ⟨n, v⟩ hy
    cases S.par n (List.of_mem_zip hy).1 with
    | inl q => exact .inl q
    | inr q => exact .inr ⟨q, PySem.W.cellsFrom_some _ _ _ (.inl q)⟩
  refine codeAny_call_function hr.depth (KX _ _ lk) rfl S.co S.gen rfl (PySem.W.codeRec_of KX hcd) (hb _ _ _ _ ?_)
  refine wpAny_newFunctionEnv_cells S.kind kinds ?_
  intro env he s1 x
  subst he
  obtain ⟨t, ht, hq⟩ := body cdv A outer s H vs Q E (hr.deeper _) hg hsp
  refine ⟨lim.keeps x.toInCall.keep, codeAny_func ?_⟩
  have I := inv_start (CX := L2.CX P w) (E := E) S hr.hd e0 (len _ _ _ _ hsp) r x
  refine wpAny_mono (ht.run [] s1 (start N vs) H _ I hq) ?_ (fun e s' hs => hs)
  intro fl s' hs
  cases fl with
  | next =>
    obtain ⟨σ', H', J, q⟩ := hs
    exact ⟨.non, H', J.os, J.bare, J.base, J.hok, rfl, q⟩
  | ret u =>
    obtain ⟨v, σ', H', J, rv, q⟩ := hs
    exact ⟨v, H', J.os, J.bare, J.base, J.hok, rv, q⟩
  | brk => obtain ⟨_, _, _, q⟩ := hs; exact q.elim
  | cont => obtain ⟨_, _, _, q⟩ := hs; exact q.elim
section
variable {X : Cx} {k : Nat} {f : Addr} {fd : FuncData} {ps : List Str} {sp : Sp} {dvs : List V} {ds : List Value} {EX : XK} {x : Str} {p pos : Pos} {e : Expr} {es : List Expr} {t : TA}
theorem runG {pins : List (Addr × Obj)} {σ : St} {H : Hp} {s : Shared} {Q : VK} {us : List Value} {vs : List V} (F : FnG X.prog X.w X.K X.mg X.base k f fd ps sp) (hr : Room k X.A) (hg : X.A.guards = some [])
    (hb : Binds X.K fd ps ds) (hd : Vals dvs ds) (hx : Passes (L2.CX X.prog X.w) X EX) (I : Inv X pins σ H s) (r : Vals vs us) (h : sp (vs ++ dvs) H Q EX) :
    wpAny (model X.prog X.w) X.A (call (.ref f) us) (EP X pins σ Q) X.xe s := by
  have r2 := r.append hd
  have hl : (us ++ ds).length = ps.length := r2.length.symm.trans (F.len _ _ _ _ h)
  refine wpAny_call (codeAny_mono (F.go X.A X.stack s H ⟨us, []⟩ (us ++ ds) (vs ++ dvs) Q EX hr hg I.env0 (hb s us I.kIn hl) r2 h) ?_)
  intro res s' hq
  cases res with
  | error e => exact hx pins σ H s e s' I hq
  | ok fl =>
    cases fl with
    | ret u => exact I.after hq
    | next => exact hq.elim
    | brk => exact hq.elim
    | cont => exact hq.elim
theorem pe_callG (F : FnG X.prog X.w X.K X.mg X.base k f fd ps sp) (hr : Room k X.A) (hgu : X.A.guards = some []) (hg : Gl X x) (hm : X.mg x = some (.ref f)) (hk : PySem.W.keepIn X.K (.ref f) = true)
    (hb : Binds X.K fd ps ds) (hd : Vals dvs ds) (hx : Passes (L2.CX X.prog X.w) X EX) (ha : PA X (e :: es) t) (hdb : (x == ("__debug__" : Str)) = false := by decide)
    (he : starEach (e :: es) X.env = (false, eval e X.env) :: starEach es X.env := by rfl) (hpl : (backTo pos (starEach es X.env)).any (·.1) = false := by rfl) :
    PE X (.Call (.Name x p) (e :: es) [] pos) (tCall sp dvs EX t) := by
  constructor
  intro pins s σ H Q I h
  refine wpAny_Call_Name_kw (ld_glob I hg hm ?_ hdb)
  refine PySem.W.callWith_K (h₀ := X.base) I.ok.mod.kin hk (thn (ha.run pos pins s σ H _ I h) ?_) he hpl
  intro us s1 ⟨vs, H1, I1, r, q⟩
  exact ⟨I1.kIn, runG F hr hgu hb hd hx I1 r q⟩
end

/-! ### judgements -/
abbrev DT := DEnv → (Vl → DEnv → Prop) → Prop
abbrev DTT := DEnv → (Bool → DEnv → Prop) → Prop
abbrev DTF := DEnv → (List PyData → DEnv → Prop) → Prop
abbrev DTA := DEnv → (List Vl → DEnv → Prop) → Prop
def tD (K : PySem.W.Frag) (E : Ent) (f : DT) : TE := fun st H Q => ∃ F r P, Rel K E F H st r ∧ f r P ∧ ∀ s r' v F' H', P s r' → Aft K E F H st r F' H' r' → VlOk K F' H' st r' v s → New H v s → Q v H'
def tDT (K : PySem.W.Frag) (E : Ent) (f : DTT) : TT := fun st H Q => ∃ F r P, Rel K E F H st r ∧ f r P ∧ ∀ b r' F' H', P b r' → Aft K E F H st r F' H' r' → Q b H'
/-- arguments that stay -/
def tDF (K : PySem.W.Frag) (E : Ent) (f : DTF) : TA := fun st H Q => ∃ F r P, Rel K E F H st r ∧ f r P ∧ ∀ xs r' vs F' H', P xs r' → Aft K E F H st r F' H' r' → Rps K F' vs xs → Q vs H'
/-- arguments that stay, or stand in a slot -/
def Vl.old : Vl → Bool
  | .n _ => false
  | _ => true
def tDA (K : PySem.W.Frag) (E : Ent) (f : DTA) : TA := fun st H Q => ∃ F r P, Rel K E F H st r ∧ f r P ∧ ∀ ss r' vs F' H', P ss r' → Aft K E F H st r F' H' r' → Paired (VlOk K F' H' st r') vs ss → (∀ s ∈ ss, s.old = true) → Q vs H'
abbrev DE (E : Ent) (X : Cx) (e : Expr) (f : DT) : Prop := PE X e (tD X.K E f)
abbrev DTe (E : Ent) (X : Cx) (e : Expr) (f : DTT) : Prop := PT X e (tDT X.K E f)
abbrev DW (E : Ent) (X : Cx) (e : Expr) (f : DTT) : Prop := PW X e (tDT X.K E f)
abbrev DF (E : Ent) (X : Cx) (es : List Expr) (f : DTF) : Prop := PA X es (tDF X.K E f)
abbrev DA (E : Ent) (X : Cx) (es : List Expr) (f : DTA) : Prop := PA X es (tDA X.K E f)
theorem wkE {X : Cx} {e : Expr} {t t' : TE} (h : PE X e t) (k : ∀ st H Q, t' st H Q → t st H Q) : PE X e t' := ⟨fun pins s st H Q I q => h.run pins s st H Q I (k _ _ _ q)⟩
theorem wkT {X : Cx} {e : Expr} {t t' : TT} (h : PT X e t) (k : ∀ st H Q, t' st H Q → t st H Q) : PT X e t' := ⟨fun pins s st H Q I q => h.run pins s st H Q I (k _ _ _ q)⟩
theorem wkW {X : Cx} {e : Expr} {t t' : TT} (h : PW X e t) (k : ∀ st H Q, t' st H Q → t st H Q) : PW X e t' := ⟨fun w pins s st H Q I q => h.run w pins s st H Q I (k _ _ _ q)⟩
theorem wkA {X : Cx} {es : List Expr} {t t' : TA} (h : PA X es t) (k : ∀ st H Q, t' st H Q → t st H Q) : PA X es t' := ⟨fun pos pins s st H Q I q => h.run pos pins s st H Q I (k _ _ _ q)⟩
theorem wkS {X : Cx} {e : Stmt} {t t' : TS} (h : PS X e t) (k : ∀ D st H, t' D st H → t D st H) : PS X e t' := ⟨fun pins s st H D I q => h.run pins s st H D I (k _ _ _ q)⟩
theorem wkSs {X : Cx} {e : List Stmt} {t t' : TS} (h : PSs X e t) (k : ∀ D st H, t' D st H → t D st H) : PSs X e t' := ⟨fun pins s st H D I q => h.run pins s st H D I (k _ _ _ q)⟩

/-! ### names, constants -/
section
variable {X : Cx} {E : Ent} {e a b c : Expr} {es rest : List Expr} {pos : Pos} {fa fb fc : DT} {K : PySem.W.Frag} {F H : Hp} {st : St} {r : DEnv}
def vlOf (i : Nat) : Sl → Vl
  | .d x => .d x
  | _ => .v i
def dVar (i : Nat) (r : DEnv) (P : Vl → DEnv → Prop) : Prop := ∃ s, r[i]? = some (some s) ∧ P (vlOf i s) r
theorem Rel.var {i : Nat} {s : Sl} (R : Rel K E F H st r) (e : r[i]? = some (some s)) : ∃ v, st[i]? = some (some v) ∧ VlOk K F H st r v (vlOf i s) := by
  cases s with
  | d x => exact R.dat i x e
  | l x => obtain ⟨p, q, _⟩ := R.own i x e; exact ⟨_, q, q⟩
  | b x => obtain ⟨p, q, _⟩ := R.bor i x e; exact ⟨_, q, q⟩
theorem new_old {v : V} {s : Vl} (h : s.old = true) : New H v s := by
  cases s with
  | d x => trivial
  | v i => trivial
  | n x => cases h
theorem vlOf_old {i : Nat} {s : Sl} : (vlOf i s).old = true := by cases s <;> rfl
theorem de_var {i : Nat} (h : PE X e (tVar i)) : DE E X e (dVar i) := by
  refine wkE h fun st H Q ⟨F, r, P, R, ⟨s, e, p⟩, k⟩ => ?_
  obtain ⟨v, q, ok⟩ := R.var e
  exact ⟨v, q, k _ _ _ _ _ p (.refl R) ok (new_old vlOf_old)⟩
def dC (x : PyData) (r : DEnv) (P : Vl → DEnv → Prop) : Prop := P (.d x) r
theorem de_c {v : V} {x : PyData} (h : PE X e (tC v)) (hx : ∀ F, Rp X.K F v x) : DE E X e (dC x) :=
  wkE h fun st H Q ⟨F, r, P, R, p, k⟩ => k _ _ _ _ _ p (.refl R) (hx F) trivial
theorem de_int {i j pos} : DE E X (.Constant (.int i) j pos) (dC (.int i)) := de_c pe_int fun _ => .int i
theorem de_bl {i j pos} : DE E X (.Constant (.bool i) j pos) (dC (.bool i)) := de_c pe_bl fun _ => .bl i
theorem de_non {j pos} : DE E X (.Constant .none j pos) (dC .none) := de_c pe_non fun _ => .non
theorem de_str {i j pos} : DE E X (.Constant (.str i) j pos) (dC (.str i)) := de_c pe_str fun _ => .str i
/-- the value is put among what stays -/
def setD (r : DEnv) (i : Nat) (x : PyData) : DEnv := r.set i (some (.d x))
def dFz (f : DT) (r : DEnv) (P : Vl → DEnv → Prop) : Prop := f r fun s r' => match s with
  | .d x => P (.d x) r'
  | .n x => P (.d x) r'
  | .v i => match r'[i]? with
    | some (some (.l x)) => P (.d x) (setD r' i x)
    | some (some (.d x)) => P (.d x) r'
    | _ => False
/-- a slot's own object is put among what stays -/
theorem Rel.frzAt {i : Nat} {x : PyData} {v : V} (R : Rel K E F H st r) (e : r[i]? = some (some (.l x))) (hv : st[i]? = some (some v)) :
    ∃ F', Aft K E F H st r F' H (setD r i x) ∧ Rp K F' v x := by
  obtain ⟨p, e1, e0, z⟩ := R.own i x e
  rw [hv] at e1
  cases e1
  obtain ⟨o, ho, q⟩ := z.frz
  have f := z.some.2
  have gF : Same F (upd F p o) := same_upd f
  have ob : ∀ j s y q, r[j]? = some (some s) → Sl.mu s = true → st[j]? = some (some (.ref q)) → j ≠ i → ObAt K F H q y → ObAt K (upd F p o) H q y := fun j s y q hj hm hq ne zz =>
    zz.mono gF (by rw [upd_ne (show q ≠ p from fun z => ne (R.sep j i s _ p hj e hm rfl (z ▸ hq) hv))]; exact zz.some.2) fun _ q => q
  have il : i < r.length := (List.getElem?_eq_some_iff.mp e).1
  have at_ : ∀ j s, (setD r i x)[j]? = some (some s) → (j = i ∧ s = .d x) ∨ (j ≠ i ∧ r[j]? = some (some s)) := fun j s q => by
    unfold setD at q
    by_cases h : j = i
    · subst h
      rw [List.getElem?_set_self il] at q
      cases q
      exact .inl ⟨rfl, rfl⟩
    · rw [List.getElem?_set_ne (Ne.symm h)] at q
      exact .inr ⟨h, q⟩
  have mu : ∀ a, MutA st (setD r i x) a → MutA st r a ∧ a ≠ p := fun a ⟨j, s, h1, h2, h3⟩ => by
    rcases at_ j s h1 with ⟨_, z⟩ | ⟨ne, z⟩
    · subst z; cases h2
    · exact ⟨⟨j, s, z, h2, h3⟩, fun ea => ne (R.sep j i s _ p z e h2 rfl (ea ▸ h3) hv)⟩
  refine ⟨upd F p o, ⟨⟨fun a u q => ?_, R.grow.trans gF, R.keep, R.ever, fun a u q z => ?_, ?_, fun j y q => ?_, fun j y q => ?_, fun j y q => ?_, fun j l s t a h1 h2 m1 m2 s1 s2 => ?_⟩, ⟨gF, fun _ _ e _ => e, fun _ o e => ⟨o, e⟩, fun a u e1 e2 m => ?_⟩, fun a m => (mu a m).1⟩, q⟩
  · by_cases h : a = p
    · subst h
      rw [upd_same] at q
      cases q
      exact .inl ho
    · rw [upd_ne h] at q
      exact R.sub a u q
  · rw [upd_ne (fun z => by rw [z, e0] at q; cases q)]
    exact R.nofr a u q z
  · unfold setD
    rw [List.length_set]
    exact R.len
  · rcases at_ j _ q with ⟨rfl, z⟩ | ⟨ne, z⟩
    · cases z
      exact ⟨_, hv, ‹Rp K (upd F p o) (.ref p) x›⟩
    · obtain ⟨w, q1, q2⟩ := R.dat j y z
      exact ⟨w, q1, rpM gF q2⟩
  · rcases at_ j _ q with ⟨_, z⟩ | ⟨ne, z⟩
    · cases z
    · obtain ⟨w, q1, q2, q3⟩ := R.own j y z
      exact ⟨w, q1, q2, ob j _ y w z rfl q1 ne q3⟩
  · rcases at_ j _ q with ⟨_, z⟩ | ⟨ne, z⟩
    · cases z
    · obtain ⟨w, q1, q2, q3, q4⟩ := R.bor j y z
      exact ⟨w, q1, q2, q3, ob j _ y w z rfl q1 ne q4⟩
  · rcases at_ j s h1 with ⟨_, z⟩ | ⟨n1, z1⟩
    · subst z; cases m1
    · rcases at_ l t h2 with ⟨_, z⟩ | ⟨n2, z2⟩
      · subst z; cases m2
      · exact R.sep j l s t a z1 z2 m1 m2 s1 s2
  · rw [upd_ne]
    · exact e2
    · exact fun z => m ⟨i, _, e, rfl, by rw [z]; exact hv⟩
theorem de_fz (h : DE E X e fa) : DE E X e (dFz fa) := by
  refine wkE h fun st H Q ⟨F, r, P, R, p, k⟩ => ⟨F, r, _, R, p, fun s r' v F' H' q A ok n => ?_⟩
  cases s with
  | d x => exact k _ _ _ _ _ q A ok trivial
  | n x =>
    obtain ⟨F2, A2, g, ok2⟩ := A.frz R ok n
    exact k _ _ _ _ _ q A2 ok2 trivial
  | v i =>
    have hv : st[i]? = some (some v) := ok
    have q : (match r'[i]? with
      | some (some (.l x)) => P (.d x) (setD r' i x)
      | some (some (.d x)) => P (.d x) r'
      | _ => False) := q
    split at q
    · rename_i x e
      obtain ⟨F2, B, ok2⟩ := A.rel.frzAt e hv
      exact k _ _ _ _ _ q (A.trans B) ok2 trivial
    · rename_i x e
      obtain ⟨w, q1, q2⟩ := A.rel.dat i x e
      rw [hv] at q1
      cases q1
      exact k _ _ _ _ _ q A q2 trivial
    · exact q.elim
end
end DL
set_option Elab.async false
set_option linter.all false
set_option autoImplicit false
set_option maxRecDepth 100000
set_option maxHeartbeats 4000000
/-! DLc: the data layer, part three: operators, tests, arguments, displays, calls. -/
namespace DL
open PySem PySem.Spec PyProof.Rows L2
section
variable {X : Cx} {E : Ent} {e a b c : Expr} {es rest : List Expr} {pos : Pos} {fa fb fc : DT} {ta tb : DTT} {ga : DTF} {ha : DTA} {K : PySem.W.Frag} {F H F' H' : Hp} {st : St} {r r' : DEnv}

/-! ### operators -/
/-- what an operation may hand back: data z, an object made anew perhaps -/
def Yld (K : PySem.W.Frag) (F H : Hp) (z : PyData) (Q : VK) : Prop :=
  (∀ v, Rp K F v z → Q v H) ∧ ∀ p o v, H p = none → Rp K (upd F p o) v z → Q v (upd H p o)
/-- .. or a new list zs -/
def YldL (K : PySem.W.Frag) (F H : Hp) (zs : List PyData) (Q : VK) : Prop := ∀ p vs, H p = none → Rps K F vs zs → Q (.ref p) (upd H p (.lst vs))
def dOp (B : PyData → PyData → PyData → Prop) (fa fb : DT) (r : DEnv) (P : Vl → DEnv → Prop) : Prop := fa r fun s r1 => fb r1 fun t r2 => ∃ x y z, rd r2 s = some x ∧ rd r2 t = some y ∧ B x y z ∧ P (.d z) r2
def dOpL (B : PyData → PyData → List PyData → Prop) (fa fb : DT) (r : DEnv) (P : Vl → DEnv → Prop) : Prop := fa r fun s r1 => fb r1 fun t r2 => ∃ x y z, rd r2 s = some x ∧ rd r2 t = some y ∧ B x y z ∧ P (.n (.list z)) r2
/-- a rule over values serves data -/
def OpB (K : PySem.W.Frag) (rr : R2) (B : PyData → PyData → PyData → Prop) : Prop := ∀ F H v w x y z Q, Sub F H → Rdv K F H v x → Rdv K F H w y → B x y z → Yld K F H z Q → rr v w H Q
def OpBL (K : PySem.W.Frag) (rr : R2) (B : PyData → PyData → List PyData → Prop) : Prop := ∀ F H v w x y z Q, Sub F H → Rdv K F H v x → Rdv K F H w y → B x y z → YldL K F H z Q → rr v w H Q
theorem yld_of {Q : VK} {P : Vl → DEnv → Prop} {z : PyData} {F0 H0 : Hp} {r0 : DEnv} (A : Aft K E F0 H0 st r0 F H r) (p : P (.d z) r)
    (k : ∀ s r' v F' H', P s r' → Aft K E F0 H0 st r0 F' H' r' → VlOk K F' H' st r' v s → New H0 v s → Q v H') : Yld K F H z Q :=
  ⟨fun v q => k (.d z) r v F H p A q trivial, fun p' o v n q => k (.d z) r v _ _ p (A.trans (A.rel.new n)) q trivial⟩
theorem yldL_of {Q : VK} {P : Vl → DEnv → Prop} {zs : List PyData} {F0 H0 : Hp} {r0 : DEnv} (A : Aft K E F0 H0 st r0 F H r) (p : P (.n (.list zs)) r)
    (k : ∀ s r' v F' H', P s r' → Aft K E F0 H0 st r0 F' H' r' → VlOk K F' H' st r' v s → New H0 v s → Q v H') : YldL K F H zs Q := fun p' vs n q => by
  obtain ⟨B, ok⟩ := A.rel.newL n q
  refine k (.n (.list zs)) r _ _ _ p (A.trans B) ok (A.newBack (v := V.ref p') (s := .n (.list zs)) fun q e => ?_)
  cases e
  exact n
theorem op_bin {rr : R2} {B : PyData → PyData → PyData → Prop} (h : OpB K rr B) : ∀ st H Q, tD K E (dOp B fa fb) st H Q → tOp rr (tD K E fa) (tD K E fb) st H Q := fun st H Q ⟨F, r, P, R, p, k⟩ =>
  ⟨F, r, _, R, p, fun s r1 v F1 H1 q1 A1 ok1 n1 => ⟨F1, r1, _, A1.rel, q1, fun t r2 w F2 H2 q2 A2 ok2 n2 => by
    obtain ⟨x, y, z, e1, e2, hb, q⟩ := q2
    exact h F2 H2 v w x y z Q A2.rel.sub (A2.rel.read (ok1.aft A2) e1) (A2.rel.read ok2 e2) hb (yld_of (A1.trans A2) q k)⟩⟩
theorem op_binL {rr : R2} {B : PyData → PyData → List PyData → Prop} (h : OpBL K rr B) : ∀ st H Q, tD K E (dOpL B fa fb) st H Q → tOp rr (tD K E fa) (tD K E fb) st H Q := fun st H Q ⟨F, r, P, R, p, k⟩ =>
  ⟨F, r, _, R, p, fun s r1 v F1 H1 q1 A1 ok1 n1 => ⟨F1, r1, _, A1.rel, q1, fun t r2 w F2 H2 q2 A2 ok2 n2 => by
    obtain ⟨x, y, z, e1, e2, hb, q⟩ := q2
    exact h F2 H2 v w x y z Q A2.rel.sub (A2.rel.read (ok1.aft A2) e1) (A2.rel.read ok2 e2) hb (yldL_of (A1.trans A2) q k)⟩⟩
theorem de_op {op : Operator} {rr : R2} {B : PyData → PyData → PyData → Prop} (ho : OpR X (binaryOp op) rr) (h : OpB X.K rr B) (ha : DE E X a fa) (hb : DE E X b fb) : DE E X (.BinOp a op b pos) (dOp B fa fb) := wkE (pe_op ho ha hb) (op_bin h)
theorem de_opL {op : Operator} {rr : R2} {B : PyData → PyData → List PyData → Prop} (ho : OpR X (binaryOp op) rr) (h : OpBL X.K rr B) (ha : DE E X a fa) (hb : DE E X b fb) : DE E X (.BinOp a op b pos) (dOpL B fa fb) := wkE (pe_op ho ha hb) (op_binL h)
theorem de_cmp {op : CmpOp} {rr : R2} {B : PyData → PyData → PyData → Prop} (ho : OpR X (compareOp op) rr) (h : OpB X.K rr B) (ha : DE E X a fa) (hb : DE E X b fb) (hm : behindInMarks op b = false) : DE E X (.Compare a [op] [b] pos) (dOp B fa fb) :=
  wkE (pe_cmpR ho ha hb hm) (op_bin h)
/-- ints -/
def I2 (g : Int → Int → PyData) (C : Int → Int → Prop) : PyData → PyData → PyData → Prop := fun x y z => ∃ i j, x = .int i ∧ y = .int j ∧ C i j ∧ z = g i j
theorem opB_int {g : Int → Int → V} {g' : Int → Int → PyData} {C : Int → Int → Prop} (hg : ∀ K F i j, Rp K F (g i j) (g' i j)) : OpB K (rI C g) (I2 g' C) := by
  intro F H v w x y z Q g0 h1 h2 ⟨i, j, e1, e2, hc, e3⟩ hy
  subst e1 e2 e3
  exact ⟨i, j, h1.int, h2.int, hc, hy.1 _ (hg _ _ _ _)⟩
theorem opB_int0 {g : Int → Int → V} {g' : Int → Int → PyData} (hg : ∀ K F i j, Rp K F (g i j) (g' i j)) : OpB K (rI0 g) (I2 g' fun _ _ => True) := by
  intro F H v w x y z Q g0 h1 h2 ⟨i, j, e1, e2, hc, e3⟩ hy
  subst e1 e2 e3
  exact ⟨i, j, h1.int, h2.int, hy.1 _ (hg _ _ _ _)⟩
theorem opB_or {r1 r2 : R2} {B1 B2 : PyData → PyData → PyData → Prop} (h1 : OpB K r1 B1) (h2 : OpB K r2 B2) : OpB K (fun x y H Q => r1 x y H Q ∨ r2 x y H Q) (fun x y z => B1 x y z ∨ B2 x y z) := by
  intro F H v w x y z Q g0 a1 a2 hb hy
  rcases hb with hb | hb
  · exact .inl (h1 F H v w x y z Q g0 a1 a2 hb hy)
  · exact .inr (h2 F H v w x y z Q g0 a1 a2 hb hy)
theorem opR_or {f : Value → Value → Sem Value} {r1 r2 : R2} (h1 : OpR X f r1) (h2 : OpR X f r2) : OpR X f (fun x y H Q => r1 x y H Q ∨ r2 x y H Q) := by
  intro pins s σ H x y v u Q I rx ry h
  rcases h with h | h
  · exact h1 pins s σ H x y v u Q I rx ry h
  · exact h2 pins s σ H x y v u Q I rx ry h
abbrev bAdd := I2 (fun i j => .int (i + j)) fun _ _ => True
abbrev bSub := I2 (fun i j => .int (i - j)) fun _ _ => True
abbrev bMul := I2 (fun i j => .int (i * j)) CMul
abbrev bMulW := I2 (fun i j => .int (i * j)) CMulW
abbrev bMod := I2 (fun i j => .int (i.fmod j)) fun _ j => j ≠ 0
abbrev bDiv := I2 (fun i j => .int (i.fdiv j)) CDivN
abbrev bDivW := I2 (fun i j => .int (i / j)) CDivW
abbrev bPow := I2 (fun i j => .int (i ^ j.toNat)) CPow
theorem de_add (ha : DE E X a fa) (hb : DE E X b fb) : DE E X (.BinOp a .Add b pos) (dOp bAdd fa fb) := de_op op_add (opB_int0 fun _ _ _ _ => .int _) ha hb
theorem de_sub (ha : DE E X a fa) (hb : DE E X b fb) : DE E X (.BinOp a .Sub b pos) (dOp bSub fa fb) := de_op op_sub (opB_int0 fun _ _ _ _ => .int _) ha hb
theorem de_mul (ha : DE E X a fa) (hb : DE E X b fb) : DE E X (.BinOp a .Mult b pos) (dOp bMul fa fb) := de_op op_mul (opB_int fun _ _ _ _ => .int _) ha hb
theorem de_mulW (ha : DE E X a fa) (hb : DE E X b fb) : DE E X (.BinOp a .Mult b pos) (dOp bMulW fa fb) := de_op op_mulW (opB_int fun _ _ _ _ => .int _) ha hb
theorem de_mod (ha : DE E X a fa) (hb : DE E X b fb) : DE E X (.BinOp a .Mod b pos) (dOp bMod fa fb) := de_op op_modN (opB_int fun _ _ _ _ => .int _) ha hb
theorem de_div (ha : DE E X a fa) (hb : DE E X b fb) : DE E X (.BinOp a .FloorDiv b pos) (dOp bDiv fa fb) := de_op op_fdivN (opB_int fun _ _ _ _ => .int _) ha hb
theorem de_divW (ha : DE E X a fa) (hb : DE E X b fb) : DE E X (.BinOp a .FloorDiv b pos) (dOp bDivW fa fb) := de_op op_fdivW (opB_int fun _ _ _ _ => .int _) ha hb
theorem de_pow (ha : DE E X a fa) (hb : DE E X b fb) : DE E X (.BinOp a .Pow b pos) (dOp bPow fa fb) := de_op op_pow (opB_int fun _ _ _ _ => .int _) ha hb
abbrev bLt := I2 (fun i j => .bool (decide (i < j))) fun _ _ => True
abbrev bLe := I2 (fun i j => .bool (decide (i ≤ j))) fun _ _ => True
abbrev bGt := I2 (fun i j => .bool (decide (j < i))) fun _ _ => True
abbrev bGe := I2 (fun i j => .bool (decide (j ≤ i))) fun _ _ => True
theorem de_lt (ha : DE E X a fa) (hb : DE E X b fb) : DE E X (.Compare a [.Lt] [b] pos) (dOp bLt fa fb) := de_cmp op_lt (opB_int0 fun _ _ _ _ => .bl _) ha hb (nomark _)
theorem de_le (ha : DE E X a fa) (hb : DE E X b fb) : DE E X (.Compare a [.LtE] [b] pos) (dOp bLe fa fb) := de_cmp op_le (opB_int0 fun _ _ _ _ => .bl _) ha hb (nomark _)
theorem de_gt (ha : DE E X a fa) (hb : DE E X b fb) : DE E X (.Compare a [.Gt] [b] pos) (dOp bGt fa fb) := de_cmp op_gt (opB_int0 fun _ _ _ _ => .bl _) ha hb (nomark _)
theorem de_ge (ha : DE E X a fa) (hb : DE E X b fb) : DE E X (.Compare a [.GtE] [b] pos) (dOp bGe fa fb) := de_cmp op_ge (opB_int0 fun _ _ _ _ => .bl _) ha hb (nomark _)
/-- == of data -/
def bEq : PyData → PyData → PyData → Prop := fun x y z => (noDic x = true ∧ SeqAt.shaped x = true) ∧ (noDic y = true ∧ SeqAt.shaped y = true) ∧ z = .bool (PyData.eqv x y)
def bNe : PyData → PyData → PyData → Prop := fun x y z => (noDic x = true ∧ SeqAt.shaped x = true) ∧ (noDic y = true ∧ SeqAt.shaped y = true) ∧ z = .bool (!PyData.eqv x y)
theorem opB_eq : OpB K (rEqD K) bEq := by
  intro F H v w x y z Q g h1 h2 ⟨⟨n1, s1⟩, ⟨n2, s2⟩, e⟩ hy
  subst e
  exact ⟨x, y, h1.dp g n1, h2.dp g n2, s1, s2, hy.1 _ (.bl _)⟩
theorem opB_ne : OpB K (rNeD K) bNe := by
  intro F H v w x y z Q g h1 h2 ⟨⟨n1, s1⟩, ⟨n2, s2⟩, e⟩ hy
  subst e
  exact ⟨x, y, h1.dp g n1, h2.dp g n2, s1, s2, hy.1 _ (.bl _)⟩
theorem de_eq (hu : X.A.units + 64 < cLine) (ha : DE E X a fa) (hb : DE E X b fb) : DE E X (.Compare a [.Eq] [b] pos) (dOp bEq fa fb) := de_cmp (op_eqD hu) opB_eq ha hb (nomark _)
theorem de_ne (hu : X.A.units + 64 < cLine) (ha : DE E X a fa) (hb : DE E X b fb) : DE E X (.Compare a [.NotEq] [b] pos) (dOp bNe fa fb) := de_cmp (op_neD hu) opB_ne ha hb (nomark _)
/-- a chain -/
def dChain (B B' : PyData → PyData → PyData → Prop) (fa fb fc : DT) (r : DEnv) (P : Vl → DEnv → Prop) : Prop := fa r fun s r1 => fb r1 fun t r2 => ∃ x y k, rd r2 s = some x ∧ t = .d y ∧ B x y (.bool k) ∧
  if k = true then fc r2 fun u r3 => ∃ w z, rd r3 u = some w ∧ B' y w z ∧ P (.d z) r3 else P (.d (.bool false)) r2
theorem de_chain {op op' : CmpOp} {rr rr' : R2} {B B' : PyData → PyData → PyData → Prop} (h1 : PE X (.Compare a [op, op'] [b, c] pos) (tChain rr rr' (tD X.K E fa) (tD X.K E fb) (tD X.K E fc))) (h : OpB X.K rr B) (h' : OpB X.K rr' B') :
    DE E X (.Compare a [op, op'] [b, c] pos) (dChain B B' fa fb fc) := by
  refine wkE h1 fun st H Q ⟨F, r, P, R, p, k⟩ => ?_
  refine ⟨F, r, _, R, p, fun s r1 v F1 H1 q1 A1 ok1 n1 => ⟨F1, r1, _, A1.rel, q1, fun t r2 w F2 H2 q2 A2 ok2 n2 => ?_⟩⟩
  obtain ⟨x, y, b, e1, e2, hb, q⟩ := q2
  subst e2
  have fin : ∃ k, V.bl b = .bl k ∧ (if k = true then tD X.K E fc st H2 (fun w' H4 => rr' w w' H4 Q) else Q (.bl false) H2) := by
    refine ⟨b, rfl, ?_⟩
    cases b with
    | true =>
      rw [if_pos rfl] at q ⊢
      refine ⟨F2, r2, _, A2.rel, q, fun u r3 w' F3 H3 q3 A3 ok3 n3 => ?_⟩
      obtain ⟨y', z, e3, hb', q4⟩ := q3
      exact h' F3 H3 w w' y y' z Q A3.rel.sub (.inl (rpM A3.stp.gf ok2)) (A3.rel.read ok3 e3) hb' (yld_of ((A1.trans A2).trans A3) q4 k)
    | false =>
      rw [if_neg Bool.false_ne_true] at q ⊢
      exact k _ _ _ _ _ q (A1.trans A2) (.bl _) trivial
  refine h F2 H2 v w x y (.bool b) _ A2.rel.sub (A2.rel.read (ok1.aft A2) e1) (.inl ok2) hb ⟨fun v' hv => ?_, fun p' o v' n hv => ?_⟩
  · cases hv
    exact fin
  · cases hv
    obtain ⟨k', e, q'⟩ := fin
    cases e
    refine ⟨b, rfl, ?_⟩
    have B1 := A2.rel.new (o := o) n
    cases b with
    | true =>
      rw [if_pos rfl] at q ⊢
      refine ⟨_, r2, _, B1.rel, q, fun u r3 w' F3 H3 q3 A3 ok3 n3 => ?_⟩
      obtain ⟨y', z, e3, hb', q4⟩ := q3
      exact h' F3 H3 w w' y y' z Q A3.rel.sub (.inl (rpM A3.stp.gf (rpM B1.stp.gf ok2))) (A3.rel.read ok3 e3) hb' (yld_of (((A1.trans A2).trans B1).trans A3) q4 k)
    | false =>
      rw [if_neg Bool.false_ne_true] at q ⊢
      exact k _ _ _ _ _ q ((A1.trans A2).trans B1) (.bl _) trivial
theorem de_le_le (ha : DE E X a fa) (hb : DE E X b fb) (hc : DE E X c fc) (hm : lastMarks [CmpOp.LtE, CmpOp.LtE] [b, c] = false := by rfl) : DE E X (.Compare a [.LtE, .LtE] [b, c] pos) (dChain bLe bLe fa fb fc) := de_chain (pe_chain op_le op_le ha hb hc hm) (opB_int0 fun _ _ _ _ => .bl _) (opB_int0 fun _ _ _ _ => .bl _)
theorem de_le_lt (ha : DE E X a fa) (hb : DE E X b fb) (hc : DE E X c fc) (hm : lastMarks [CmpOp.LtE, CmpOp.Lt] [b, c] = false := by rfl) : DE E X (.Compare a [.LtE, .Lt] [b, c] pos) (dChain bLe bLt fa fb fc) := de_chain (pe_chain op_le op_lt ha hb hc hm) (opB_int0 fun _ _ _ _ => .bl _) (opB_int0 fun _ _ _ _ => .bl _)

/-! ### tests -/
def dTe (fa : DT) (r : DEnv) (P : Bool → DEnv → Prop) : Prop := fa r fun s r1 => ∃ k, s = .d (.bool k) ∧ P k r1
theorem dt_val (h : PT X e (tB (tD X.K E fa))) : DTe E X e (dTe fa) := by
  refine wkT h fun st H Q ⟨F, r, P, R, p, k⟩ => ⟨F, r, _, R, p, fun s r1 v F1 H1 q1 A1 ok1 n1 => ?_⟩
  obtain ⟨b, e, q⟩ := q1
  subst e
  cases ok1
  exact ⟨b, rfl, k _ _ _ _ q A1⟩
def dtAnd (ta tb : DTT) (r : DEnv) (P : Bool → DEnv → Prop) : Prop := ta r fun c r1 => if c = true then tb r1 P else P false r1
def dtOr (ta tb : DTT) (r : DEnv) (P : Bool → DEnv → Prop) : Prop := ta r fun c r1 => if c = true then P true r1 else tb r1 P
def dtNot (ta : DTT) (r : DEnv) (P : Bool → DEnv → Prop) : Prop := ta r fun c r1 => P (!c) r1
theorem dt_ite {Q : Bool → Hp → Prop} {P : Bool → DEnv → Prop} {F0 H0 : Hp} {r0 : DEnv} (A : Aft K E F0 H0 st r0 F H r) (q : tb r P) (k : ∀ b r' F' H', P b r' → Aft K E F0 H0 st r0 F' H' r' → Q b H') : tDT K E tb st H Q :=
  ⟨F, r, P, A.rel, q, fun b r' F' H' q' B => k b r' F' H' q' (A.trans B)⟩
theorem dw_and1 (ha : DTe E X a ta) : DW E X (.BoolOp .And [a] pos) ta := pw_and1 ha
theorem dw_or1 (ha : DTe E X a ta) : DW E X (.BoolOp .Or [a] pos) ta := pw_or1 ha
theorem dw_and (ha : DTe E X a ta) (hb : DW E X (.BoolOp .And (b :: rest) pos) tb) : DW E X (.BoolOp .And (a :: b :: rest) pos) (dtAnd ta tb) := by
  refine wkW (pw_and ha hb) fun st H Q ⟨F, r, P, R, p, k⟩ => ⟨F, r, _, R, p, fun c r1 F1 H1 q1 A1 => ?_⟩
  cases c with
  | true =>
    rw [if_pos rfl] at q1 ⊢
    exact dt_ite A1 q1 k
  | false =>
    rw [if_neg Bool.false_ne_true] at q1 ⊢
    exact k _ _ _ _ q1 A1
theorem dw_or (ha : DTe E X a ta) (hb : DW E X (.BoolOp .Or (b :: rest) pos) tb) : DW E X (.BoolOp .Or (a :: b :: rest) pos) (dtOr ta tb) := by
  refine wkW (pw_or ha hb) fun st H Q ⟨F, r, P, R, p, k⟩ => ⟨F, r, _, R, p, fun c r1 F1 H1 q1 A1 => ?_⟩
  cases c with
  | true =>
    rw [if_pos rfl] at q1 ⊢
    exact k _ _ _ _ q1 A1
  | false =>
    rw [if_neg Bool.false_ne_true] at q1 ⊢
    exact dt_ite A1 q1 k
theorem dt_w (h : DW E X e ta) : DTe E X e ta := h.pt
theorem dt_not (ha : DTe E X a ta) : DTe E X (.UnaryOp .Not a pos) (dtNot ta) := by
  refine wkT (pt_not ha) fun st H Q ⟨F, r, P, R, p, k⟩ => ⟨F, r, _, R, p, fun c r1 F1 H1 q1 A1 => k _ _ _ _ q1 A1⟩
/-- as values -/
def dAnd (fa fb : DT) (r : DEnv) (P : Vl → DEnv → Prop) : Prop := fa r fun s r1 => ∃ c, s = .d (.bool c) ∧ if c = true then fb r1 P else P (.d (.bool false)) r1
def dOr (fa fb : DT) (r : DEnv) (P : Vl → DEnv → Prop) : Prop := fa r fun s r1 => ∃ c, s = .d (.bool c) ∧ if c = true then P (.d (.bool true)) r1 else fb r1 P
def dNot (fa : DT) (r : DEnv) (P : Vl → DEnv → Prop) : Prop := fa r fun s r1 => ∃ c, s = .d (.bool c) ∧ P (.d (.bool (!c))) r1
theorem de_then {Q : VK} {P : Vl → DEnv → Prop} {F0 H0 : Hp} {r0 : DEnv} (A : Aft K E F0 H0 st r0 F H r) (q : fb r P) (k : ∀ s r' v F' H', P s r' → Aft K E F0 H0 st r0 F' H' r' → VlOk K F' H' st r' v s → New H0 v s → Q v H') : tD K E fb st H Q :=
  ⟨F, r, P, A.rel, q, fun s r' v F' H' q' B ok n => k s r' v F' H' q' (A.trans B) ok (A.newBack n)⟩
theorem de_one {op} (h : DE E X a fa) : DE E X (.BoolOp op [a] pos) fa := pe_one h
theorem de_and (ha : DE E X a fa) (hb : DE E X (.BoolOp .And (b :: rest) pos) fb) : DE E X (.BoolOp .And (a :: b :: rest) pos) (dAnd fa fb) := by
  refine wkE (pe_and ha hb) fun st H Q ⟨F, r, P, R, p, k⟩ => ⟨F, r, _, R, p, fun s r1 v F1 H1 q1 A1 ok1 n1 => ?_⟩
  obtain ⟨c, e, q⟩ := q1
  subst e
  cases ok1
  refine ⟨c, rfl, ?_⟩
  cases c with
  | true =>
    rw [if_pos rfl] at q ⊢
    exact de_then A1 q k
  | false =>
    rw [if_neg Bool.false_ne_true] at q ⊢
    exact k _ _ _ _ _ q A1 (.bl _) trivial
theorem de_or (ha : DE E X a fa) (hb : DE E X (.BoolOp .Or (b :: rest) pos) fb) : DE E X (.BoolOp .Or (a :: b :: rest) pos) (dOr fa fb) := by
  refine wkE (pe_or ha hb) fun st H Q ⟨F, r, P, R, p, k⟩ => ⟨F, r, _, R, p, fun s r1 v F1 H1 q1 A1 ok1 n1 => ?_⟩
  obtain ⟨c, e, q⟩ := q1
  subst e
  cases ok1
  refine ⟨c, rfl, ?_⟩
  cases c with
  | true =>
    rw [if_pos rfl] at q ⊢
    exact k _ _ _ _ _ q A1 (.bl _) trivial
  | false =>
    rw [if_neg Bool.false_ne_true] at q ⊢
    exact de_then A1 q k
theorem de_not (ha : DE E X a fa) : DE E X (.UnaryOp .Not a pos) (dNot fa) := by
  refine wkE (pe_not ha) fun st H Q ⟨F, r, P, R, p, k⟩ => ⟨F, r, _, R, p, fun s r1 v F1 H1 q1 A1 ok1 n1 => ?_⟩
  obtain ⟨c, e, q⟩ := q1
  subst e
  cases ok1
  exact ⟨c, rfl, k _ _ _ _ _ q A1 (.bl _) trivial⟩
def dIf (t : DTT) (fa fb : DT) (r : DEnv) (P : Vl → DEnv → Prop) : Prop := t r fun c r1 => if c = true then fa r1 P else fb r1 P
theorem de_if {t : DTT} (hc : DTe E X c t) (ha : DE E X a fa) (hb : DE E X b fb) : DE E X (.IfExp c a b pos) (dIf t fa fb) := by
  refine wkE (pe_ifExp hc ha hb) fun st H Q ⟨F, r, P, R, p, k⟩ => ⟨F, r, _, R, p, fun c r1 F1 H1 q1 A1 => ?_⟩
  cases c with
  | true =>
    rw [if_pos rfl] at q1 ⊢
    exact de_then A1 q1 k
  | false =>
    rw [if_neg Bool.false_ne_true] at q1 ⊢
    exact de_then A1 q1 k

/-! ### arguments -/
def fNil (r : DEnv) (P : List PyData → DEnv → Prop) : Prop := P [] r
def fCons (fa : DT) (ga : DTF) (r : DEnv) (P : List PyData → DEnv → Prop) : Prop := dFz fa r fun s r1 => ∃ x, s = .d x ∧ ga r1 fun xs r2 => P (x :: xs) r2
theorem df_nil : DF E X [] fNil := wkA pa_nil fun st H Q ⟨F, r, P, R, p, k⟩ => k _ _ _ _ _ p (.refl R) .nil
theorem df_cons (h : DE E X e fa) (t : DF E X es ga) (hs : starEach (e :: es) X.env = (false, eval e X.env) :: starEach es X.env := by rfl) : DF E X (e :: es) (fCons fa ga) := by
  refine wkA (pa_cons (de_fz h) t hs) fun st H Q ⟨F, r, P, R, p, k⟩ => ⟨F, r, _, R, p, fun s r1 v F1 H1 q1 A1 ok1 n1 => ?_⟩
  obtain ⟨x, e, q⟩ := q1
  subst e
  exact ⟨F1, r1, _, A1.rel, q, fun xs r2 vs F2 H2 q2 A2 ok2 => k _ _ _ _ _ q2 (A1.trans A2) (.cons (rpM A2.stp.gf ok1) ok2)⟩
def aNil (r : DEnv) (P : List Vl → DEnv → Prop) : Prop := P [] r
def aCons (fa : DT) (ha : DTA) (r : DEnv) (P : List Vl → DEnv → Prop) : Prop := fa r fun s r1 => s.old = true ∧ ha r1 fun ss r2 => P (s :: ss) r2
theorem da_nil : DA E X [] aNil := wkA pa_nil fun st H Q ⟨F, r, P, R, p, k⟩ => k _ _ _ _ _ p (.refl R) .nil (fun _ h => nomatch h)
theorem da_cons (h : DE E X e fa) (t : DA E X es ha) (hs : starEach (e :: es) X.env = (false, eval e X.env) :: starEach es X.env := by rfl) : DA E X (e :: es) (aCons fa ha) := by
  refine wkA (pa_cons h t hs) fun st H Q ⟨F, r, P, R, p, k⟩ => ⟨F, r, _, R, p, fun s r1 v F1 H1 q1 A1 ok1 n1 => ?_⟩
  refine ⟨F1, r1, _, A1.rel, q1.2, fun ss r2 vs F2 H2 q2 A2 ok2 o2 => k _ _ _ _ _ q2 (A1.trans A2) (.cons (ok1.aft A2) ok2) fun u hu => ?_⟩
  rcases List.mem_cons.mp hu with rfl | hu
  · exact q1.1
  · exact o2 u hu
def dTup (ga : DTF) (r : DEnv) (P : Vl → DEnv → Prop) : Prop := ga r fun xs r1 => xs.length ≤ sizeLine ∧ P (.d (.tuple xs)) r1
theorem de_tup {k : Nat} (h : DF E X es ga) : DE E X (.Tuple es k pos) (dTup ga) := by
  refine wkE (pe_tup h) fun st H Q ⟨F, r, P, R, p, k⟩ => ⟨F, r, _, R, p, fun xs r1 vs F1 H1 q1 A1 ok1 => ?_⟩
  refine ⟨by rw [rps_len ok1]; exact q1.1, fun p n => ?_⟩
  have B := A1.rel.new (o := .tup vs) n
  exact k _ _ _ _ _ q1.2 (A1.trans B) (.tup (SqT.of upd_same) (rpsM B.stp.gf ok1)) trivial
def dLst (ga : DTF) (r : DEnv) (P : Vl → DEnv → Prop) : Prop := ga r fun xs r1 => xs.length ≤ sizeLine ∧ P (.n (.list xs)) r1
theorem de_lst (h : DF E X es ga) : DE E X (.List es pos) (dLst ga) := by
  refine wkE (pe_lst h) fun st H Q ⟨F, r, P, R, p, k⟩ => ⟨F, r, _, R, p, fun xs r1 vs F1 H1 q1 A1 ok1 => ?_⟩
  refine ⟨by rw [rps_len ok1]; exact q1.1, fun p n => ?_⟩
  exact yldL_of A1 q1.2 k p vs n ok1

/-! ### built-in functions over data that stays or is read -/
def VlsRd (r : DEnv) : List Vl → List PyData → Prop := Paired fun s x => rd r s = some x
def dB (B : List PyData → PyData → Prop) (ha : DTA) (r : DEnv) (P : Vl → DEnv → Prop) : Prop := ha r fun ss r1 => ∃ xs z, VlsRd r1 ss xs ∧ B xs z ∧ P (.d z) r1
def dBL (B : List PyData → List PyData → Prop) (ha : DTA) (r : DEnv) (P : Vl → DEnv → Prop) : Prop := ha r fun ss r1 => ∃ xs z, VlsRd r1 ss xs ∧ B xs z ∧ P (.n (.list z)) r1
def CB (K : PySem.W.Frag) (rr : List V → Hp → VK → Prop) (B : List PyData → PyData → Prop) : Prop := ∀ F H vs xs z Q, Sub F H → Paired (Rdv K F H) vs xs → B xs z → Yld K F H z Q → rr vs H Q
def CBL (K : PySem.W.Frag) (rr : List V → Hp → VK → Prop) (B : List PyData → List PyData → Prop) : Prop := ∀ F H vs xs z Q, Sub F H → Paired (Rdv K F H) vs xs → B xs z → YldL K F H z Q → rr vs H Q
theorem reads {vs : List V} {ss : List Vl} {xs : List PyData} (R : Rel K E F H st r) (h : Paired (VlOk K F H st r) vs ss) (q : VlsRd r ss xs) : Paired (Rdv K F H) vs xs := by
  induction h generalizing xs with
  | nil => cases q; exact .nil
  | cons a _ ih => cases q with
    | cons b t => exact .cons (R.read a b) (ih t)
theorem de_call {rr : List V → Hp → VK → Prop} {B : List PyData → PyData → Prop} (h1 : PE X e (tCB rr (tDA X.K E ha))) (h : CB X.K rr B) : DE E X e (dB B ha) := by
  refine wkE h1 fun st H Q ⟨F, r, P, R, p, k⟩ => ⟨F, r, _, R, p, fun ss r1 vs F1 H1 q1 A1 ok1 o1 => ?_⟩
  obtain ⟨xs, z, e, hb, q⟩ := q1
  exact h F1 H1 vs xs z Q A1.rel.sub (reads A1.rel ok1 e) hb (yld_of A1 q k)
theorem de_callL {rr : List V → Hp → VK → Prop} {B : List PyData → List PyData → Prop} (h1 : PE X e (tCB rr (tDA X.K E ha))) (h : CBL X.K rr B) : DE E X e (dBL B ha) := by
  refine wkE h1 fun st H Q ⟨F, r, P, R, p, k⟩ => ⟨F, r, _, R, p, fun ss r1 vs F1 H1 q1 A1 ok1 o1 => ?_⟩
  obtain ⟨xs, z, e, hb, q⟩ := q1
  exact h F1 H1 vs xs z Q A1.rel.sub (reads A1.rel ok1 e) hb (yldL_of A1 q k)
end
end DL
set_option Elab.async false
set_option linter.all false
set_option autoImplicit false
set_option maxRecDepth 100000
set_option maxHeartbeats 4000000
/-! DLd: the data layer, part four: statements, targets, loops; promises of defs. -/
namespace DL
open PySem PySem.Spec PyProof.Rows L2
section
variable {X : Cx} {E : Ent} {e a b c : Expr} {es : List Expr} {pos : Pos} {fa fb fc : DT} {ta tb : DTT} {K : PySem.W.Frag} {F H F' H' : Hp} {st : St} {r r' : DEnv} {sm : Stmt} {rest body : List Stmt}

/-! ### statements -/
structure DEnds where
  nx : DEnv → Prop
  rt : Sl → DEnv → Prop
  bk : DEnv → Prop := fun _ => False
  ct : DEnv → Prop := fun _ => False
abbrev DTS := DEnds → DEnv → Prop
/-- a result: data that stays, or an object that is new since the def's entry -/
def ResE (K : PySem.W.Frag) (E : Ent) (F H : Hp) (v : V) : Sl → Prop
  | .d x => Rp K F v x
  | .l x => ∃ p, v = .ref p ∧ ObAt K F H p x ∧ E.H0 p = none
  | .b _ => False
structure EndsOk (K : PySem.W.Frag) (E : Ent) (F : Hp) (P : DEnds) (D : Ends) : Prop where
  nx : ∀ r' st' F' H', P.nx r' → Rel K E F' H' st' r' → Same F F' → D.nx st' H'
  rt : ∀ s r' v st' F' H', P.rt s r' → Rel K E F' H' st' r' → ResE K E F' H' v s → D.rt v H'
  bk : ∀ r' st' F' H', P.bk r' → Rel K E F' H' st' r' → Same F F' → D.bk st' H'
  ct : ∀ r' st' F' H', P.ct r' → Rel K E F' H' st' r' → Same F F' → D.ct st' H'
theorem EndsOk.mono {P : DEnds} {D : Ends} (h : EndsOk K E F P D) (g : Same F F') : EndsOk K E F' P D :=
  ⟨fun r' st' F2 H' p R q => h.nx r' st' F2 H' p R (g.trans q), h.rt, fun r' st' F2 H' p R q => h.bk r' st' F2 H' p R (g.trans q), fun r' st' F2 H' p R q => h.ct r' st' F2 H' p R (g.trans q)⟩
def tDS (K : PySem.W.Frag) (E : Ent) (g : DTS) : TS := fun D st H => ∃ F r P, Rel K E F H st r ∧ g P r ∧ EndsOk K E F P D
abbrev DS (E : Ent) (X : Cx) (s : Stmt) (g : DTS) : Prop := PS X s (tDS X.K E g)
abbrev DSs (E : Ent) (X : Cx) (s : List Stmt) (g : DTS) : Prop := PSs X s (tDS X.K E g)
variable {g g1 g2 : DTS}
def sNext (P : DEnds) (r : DEnv) : Prop := P.nx r
def sSeq (g1 g2 : DTS) (P : DEnds) (r : DEnv) : Prop := g1 { P with nx := g2 P } r
theorem dss_nil : DSs E X [] sNext := wkSs pss_nil fun D st H ⟨F, r, P, R, p, k⟩ => k.nx _ _ _ _ p R (Same.refl _)
theorem dss_cons (h1 : DS E X sm g1) (h2 : DSs E X rest g2) : DSs E X (sm :: rest) (sSeq g1 g2) := by
  refine wkSs (pss_cons h1 h2) fun D st H ⟨F, r, P, R, p, k⟩ => ⟨F, r, { P with nx := g2 P }, R, p, fun r' st' F' H' q R' s => ⟨F', r', P, R', q, k.mono s⟩, k.rt, k.bk, k.ct⟩
theorem dss_one (h1 : DS E X sm g1) : DSs E X [sm] g1 := pss_one h1
theorem ds_pass : DS E X (.Pass pos) sNext := wkS ps_pass fun D st H ⟨F, r, P, R, p, k⟩ => k.nx _ _ _ _ p R (Same.refl _)
def sBreak (P : DEnds) (r : DEnv) : Prop := P.bk r
def sCont (P : DEnds) (r : DEnv) : Prop := P.ct r
theorem ds_break : DS E X (.Break pos) sBreak := wkS ps_break fun D st H ⟨F, r, P, R, p, k⟩ => k.bk _ _ _ _ p R (Same.refl _)
theorem ds_cont : DS E X (.Continue pos) sCont := wkS ps_continue fun D st H ⟨F, r, P, R, p, k⟩ => k.ct _ _ _ _ p R (Same.refl _)
def sNever (_ : DEnds) (_ : DEnv) : Prop := False
theorem ds_never : DS E X sm sNever := wkS ps_never fun D st H ⟨F, r, P, R, p, k⟩ => p
theorem dss_never : DSs E X rest sNever := wkSs pss_never fun D st H ⟨F, r, P, R, p, k⟩ => p
def sDrop (fa : DT) (P : DEnds) (r : DEnv) : Prop := fa r fun _ r1 => P.nx r1
theorem ds_expr (h : DE E X e fa) (hs : swapsWith e none pos.line X.env = pure false := by rfl) : DS E X (.Expr e pos) (sDrop fa) :=
  wkS (ps_expr h hs) fun D st H ⟨F, r, P, R, p, k⟩ => ⟨F, r, _, R, p, fun s r1 v F1 H1 q1 A1 _ _ => k.nx _ _ _ _ q1 A1.rel A1.stp.gf⟩
/-- a value that is handed back -/
def resOf (r : DEnv) (Q : Sl → DEnv → Prop) : Vl → Prop
  | .d x => Q (.d x) r
  | .n x => Q (.l x) r
  | .v i => match r[i]? with
    | some (some (.l x)) => Q (.l x) r
    | some (some (.d x)) => Q (.d x) r
    | _ => False
def sRet (fa : DT) (P : DEnds) (r : DEnv) : Prop := fa r fun s r1 => resOf r1 P.rt s
theorem ds_ret (h : DE E X e fa) : DS E X (.Return (some e) pos) (sRet fa) := by
  refine wkS (ps_ret h) fun D st H ⟨F, r, P, R, p, k⟩ => ⟨F, r, _, R, p, fun s r1 v F1 H1 q1 A1 ok n => ?_⟩
  cases s with
  | d x => exact k.rt _ _ _ _ _ _ q1 A1.rel ok
  | n x =>
    obtain ⟨p, e, z, _⟩ := ok
    exact k.rt _ _ _ _ _ _ q1 A1.rel ⟨p, e, z, R.fresh0 (n p e)⟩
  | v i =>
    have hv : st[i]? = some (some v) := ok
    have q1 : (match r1[i]? with
      | some (some (.l x)) => P.rt (.l x) r1
      | some (some (.d x)) => P.rt (.d x) r1
      | _ => False) := q1
    split at q1
    · rename_i x e
      obtain ⟨p, e1, e0, z⟩ := A1.rel.own i x e
      rw [hv] at e1
      cases e1
      exact k.rt _ _ _ _ _ _ q1 A1.rel ⟨p, rfl, z, e0⟩
    · rename_i x e
      obtain ⟨w, e1, z⟩ := A1.rel.dat i x e
      rw [hv] at e1
      cases e1
      exact k.rt _ _ _ _ _ _ q1 A1.rel z
    · exact q1.elim
def sRetN (P : DEnds) (r : DEnv) : Prop := P.rt (.d .none) r
theorem ds_retN : DS E X (.Return none pos) sRetN := wkS ps_retN fun D st H ⟨F, r, P, R, p, k⟩ => k.rt _ _ _ _ _ _ p R .non
def sIf (t : DTT) (g1 g2 : DTS) (P : DEnds) (r : DEnv) : Prop := t r fun c r1 => if c = true then g1 P r1 else g2 P r1
theorem ds_if {t : DTT} {s1 s2 : List Stmt} (hc : DTe E X c t) (h1 : DSs E X s1 g1) (h2 : DSs E X s2 g2) : DS E X (.If c s1 s2 pos) (sIf t g1 g2) := by
  refine wkS (ps_if hc h1 h2) fun D st H ⟨F, r, P, R, p, k⟩ => ⟨F, r, _, R, p, fun c r1 F1 H1 q1 A1 => ?_⟩
  cases c with
  | true =>
    rw [if_pos rfl] at q1 ⊢
    exact ⟨F1, r1, P, A1.rel, q1, k.mono A1.stp.gf⟩
  | false =>
    rw [if_neg Bool.false_ne_true] at q1 ⊢
    exact ⟨F1, r1, P, A1.rel, q1, k.mono A1.stp.gf⟩

/-! ### names stored -/
theorem Rel.put {i : Nat} {v : V} {s : Sl} (R : Rel K E F H st r)
    (h : (∃ x, s = .d x ∧ Rp K F v x) ∨ ∃ x p, s = .l x ∧ v = .ref p ∧ ObAt K F H p x ∧ ¬ MutA st r p ∧ E.H0 p = none) : Rel K E F H (st.set i (some v)) (r.set i (some s)) := by
  have look : ∀ j t, (r.set i (some s))[j]? = some (some t) → (j = i ∧ t = s ∧ (st.set i (some v))[j]? = some (some v)) ∨ (j ≠ i ∧ r[j]? = some (some t) ∧ (st.set i (some v))[j]? = st[j]?) := fun j t q => by
    by_cases h : j = i
    · subst h
      have il : j < r.length := by
        have := (List.getElem?_eq_some_iff.mp q).1
        rwa [List.length_set] at this
      rw [List.getElem?_set_self il] at q
      cases q
      exact .inl ⟨rfl, rfl, List.getElem?_set_self (by rw [R.len]; exact il)⟩
    · rw [List.getElem?_set_ne (Ne.symm h)] at q
      exact .inr ⟨h, q, List.getElem?_set_ne (Ne.symm h)⟩
  refine ⟨R.sub, R.grow, R.keep, R.ever, R.nofr, by rw [List.length_set, List.length_set]; exact R.len, fun j x q => ?_, fun j x q => ?_, fun j x q => ?_, fun j l t u a h1 h2 m1 m2 s1 s2 => ?_⟩
  · rcases look j _ q with ⟨rfl, e, l⟩ | ⟨_, e, l⟩
    · rcases h with ⟨y, e2, z⟩ | ⟨y, p, e2, _⟩
      · subst e2; cases e
        exact ⟨v, l, z⟩
      · subst e2; cases e
    · rw [l]
      exact R.dat j x e
  · rcases look j _ q with ⟨rfl, e, l⟩ | ⟨_, e, l⟩
    · rcases h with ⟨y, e2, z⟩ | ⟨y, p, e2, e3, z, _, z0⟩
      · subst e2; cases e
      · subst e2 e3; cases e
        exact ⟨p, l, z0, z⟩
    · rw [l]
      exact R.own j x e
  · rcases look j _ q with ⟨rfl, e, l⟩ | ⟨_, e, l⟩
    · rcases h with ⟨y, e2, z⟩ | ⟨y, p, e2, _⟩
      · subst e2; cases e
      · subst e2; cases e
    · rw [l]
      exact R.bor j x e
  · have pm : ∀ m w, m ≠ i → r[m]? = some (some w) → Sl.mu w = true → (st.set i (some v))[m]? = st[m]? → (st.set i (some v))[m]? = some (some (.ref a)) → MutA st r a := fun m w _ z1 z2 z3 z4 => ⟨m, w, z1, z2, by rw [← z3]; exact z4⟩
    have self : ∀ w, w = s → Sl.mu w = true → some (some (V.ref a)) = some (some v) → ¬ MutA st r a := fun w ew mw ev => by
      subst ew
      rcases h with ⟨y, e2, _⟩ | ⟨y, p, e2, e3, _, n, _⟩
      · subst e2; cases mw
      · rw [e3] at ev
        cases ev
        exact n
    rcases look j _ h1 with ⟨rfl, e, l1⟩ | ⟨n1, e, l1⟩
    · rcases look l _ h2 with ⟨rfl, e', l2⟩ | ⟨n2, e', l2⟩
      · rfl
      · exact (self t e m1 (s1.symm.trans l1) (pm l u n2 e' m2 l2 s2)).elim
    · rcases look l _ h2 with ⟨rfl, e', l2⟩ | ⟨n2, e', l2⟩
      · exact (self u e' m2 (s2.symm.trans l2) (pm j t n1 e m1 l1 s1)).elim
      · rw [l1] at s1
        rw [l2] at s2
        exact R.sep j l t u a e e' m1 m2 s1 s2
def putV (r : DEnv) (i : Nat) (Q : DEnv → Prop) : Vl → Prop
  | .d x => Q (r.set i (some (.d x)))
  | .n x => Q (r.set i (some (.l x)))
  | .v _ => False
def sSet (i : Nat) (fa : DT) (P : DEnds) (r : DEnv) : Prop := fa r fun s r1 => putV r1 i P.nx s
theorem Rel.putV {i : Nat} {v : V} {s : Vl} {Q : DEnv → Prop} {H0 : Hp} (R : Rel K E F H st r) (n0 : ∀ p, H0 p = none → E.H0 p = none) (ok : VlOk K F H st r v s) (n : New H0 v s) (q : putV r i Q s) : ∃ r2, Q r2 ∧ Rel K E F H (st.set i (some v)) r2 := by
  cases s with
  | d x => exact ⟨_, q, R.put (.inl ⟨x, rfl, ok⟩)⟩
  | n x =>
    obtain ⟨p, e, z, m⟩ := ok
    exact ⟨_, q, R.put (.inr ⟨x, p, rfl, e, z, m, n0 p (n p e)⟩)⟩
  | v i => exact q.elim
theorem ds_set {i : Nat} {tg : Expr} (h : PS X (.Assign [tg] e pos) (tAsg (tD X.K E fa) (gName i))) : DS E X (.Assign [tg] e pos) (sSet i fa) :=
  wkS h fun D st H ⟨F, r, P, R, p, k⟩ => ⟨F, r, _, R, p, fun s r1 v F1 H1 q1 A1 ok n => by
    obtain ⟨r2, q, R2⟩ := A1.rel.putV (fun p => R.fresh0) ok n q1
    exact k.nx _ _ _ _ q R2 A1.stp.gf⟩

/-! ### targets of loops and of tuples -/
abbrev DTG := PyData → DEnv → (DEnv → Prop) → Prop
abbrev DTGs := List PyData → DEnv → (DEnv → Prop) → Prop
def tDG (K : PySem.W.Frag) (E : Ent) (g : DTG) : TG := fun v st H Q => ∃ F r P x, Rel K E F H st r ∧ Rp K F v x ∧ g x r P ∧ ∀ r' st' F' H', P r' → Rel K E F' H' st' r' → Same F F' → Q st' H'
def tDGs (K : PySem.W.Frag) (E : Ent) (g : DTGs) : TGs := fun vs st H Q => ∃ F r P xs, Rel K E F H st r ∧ Rps K F vs xs ∧ g xs r P ∧ ∀ r' st' F' H', P r' → Rel K E F' H' st' r' → Same F F' → Q st' H'
theorem wkG {tg : Expr} {t t' : TG} (h : PG X tg t) (k : ∀ v st H Q, t' v st H Q → t v st H Q) : PG X tg t' := ⟨fun pins s st H v u Q I rv q => h.run pins s st H v u Q I rv (k _ _ _ _ q)⟩
theorem wkGs {tg : List Expr} {t t' : TGs} (h : PGs X tg t) (k : ∀ v st H Q, t' v st H Q → t v st H Q) : PGs X tg t' := ⟨fun pins s st H v u Q I rv q => h.run pins s st H v u Q I rv (k _ _ _ _ q)⟩
def hName (i : Nat) (x : PyData) (r : DEnv) (Q : DEnv → Prop) : Prop := Q (r.set i (some (.d x)))
theorem dg_name {i : Nat} {tg : Expr} (h : PG X tg (gName i)) : PG X tg (tDG X.K E (hName i)) :=
  wkG h fun v st H Q ⟨F, r, P, x, R, q, p, k⟩ => k _ _ _ _ p (R.put (.inl ⟨x, rfl, q⟩)) (Same.refl _)
def hNil (xs : List PyData) (r : DEnv) (Q : DEnv → Prop) : Prop := xs = [] ∧ Q r
def hCons (g : DTG) (gs : DTGs) (xs : List PyData) (r : DEnv) (Q : DEnv → Prop) : Prop := ∃ y ys, xs = y :: ys ∧ g y r fun r1 => gs ys r1 Q
theorem dgs_nil : PGs X [] (tDGs X.K E hNil) := wkGs pgs_nil fun v st H Q ⟨F, r, P, x, R, q, p, k⟩ => by
  obtain ⟨e, p⟩ := p
  subst e
  cases q
  exact ⟨rfl, k _ _ _ _ p R (Same.refl _)⟩
theorem dgs_cons {t : Expr} {ts : List Expr} {g : DTG} {gs : DTGs} (h1 : PG X t (tDG X.K E g)) (h2 : PGs X ts (tDGs X.K E gs)) (hs : (assignEach (t :: ts) X.env).map (·.2) = assign t X.env :: (assignEach ts X.env).map (·.2) := by rfl) :
    PGs X (t :: ts) (tDGs X.K E (hCons g gs)) := wkGs (pgs_cons h1 h2 hs) fun v st H Q ⟨F, r, P, x, R, q, p, k⟩ => by
  obtain ⟨y, ys, e, p⟩ := p
  subst e
  cases q with
  | cons q1 q2 =>
    refine ⟨_, _, rfl, F, r, _, y, R, q1, p, fun r1 st1 F1 H1 p1 R1 s1 => ⟨F1, r1, P, ys, R1, rpsM s1 q2, p1, fun r2 st2 F2 H2 p2 R2 s2 => k _ _ _ _ p2 R2 (s1.trans s2)⟩⟩
def hTup (n : Nat) (gs : DTGs) (x : PyData) (r : DEnv) (Q : DEnv → Prop) : Prop := ∃ xs, x = .tuple xs ∧ xs.length = n ∧ gs xs r Q
theorem dg_tup {tg : Expr} {gs : DTGs} {n : Nat} (h : PG X tg (gTup X.K n (tDGs X.K E gs))) : PG X tg (tDG X.K E (hTup n gs)) :=
  wkG h fun v st H Q ⟨F, r, P, x, R, q, p, k⟩ => by
    obtain ⟨xs, e, l, p⟩ := p
    subst e
    cases q with
    | tup h1 h2 => exact ⟨_, _, rfl, R.sub.tup h1, by rw [rps_len h2]; exact l, F, r, P, xs, R, h2, p, k⟩
/-- target = e, the target a tuple of names -/
def sAsg (fa : DT) (g : DTG) (P : DEnds) (r : DEnv) : Prop := dFz fa r fun s r1 => ∃ x, s = .d x ∧ g x r1 P.nx
theorem ds_asg {tg : Expr} {g : DTG} (h : PS X (.Assign [tg] e pos) (tAsg (tD X.K E (dFz fa)) (tDG X.K E g))) : DS E X (.Assign [tg] e pos) (sAsg fa g) :=
  wkS h fun D st H ⟨F, r, P, R, p, k⟩ => ⟨F, r, _, R, p, fun s r1 v F1 H1 q1 A1 ok n => by
    obtain ⟨x, e, q⟩ := q1
    subst e
    exact ⟨F1, r1, P.nx, x, A1.rel, ok, q, fun r2 st2 F2 H2 p2 R2 s2 => k.nx _ _ _ _ p2 R2 (A1.stp.gf.trans s2)⟩⟩

/-! ### loops -/
/-- an iterator over such data -/
def DWalk (K : PySem.W.Frag) (F : Hp) (J : It) (xs : List PyData) : Prop := ∃ (G : Hp → Prop) (Y : Nat → Hp → V → Hp → Prop), Walk J xs.length G Y ∧ (∀ F1 H, Same F F1 → Sub F1 H → G H) ∧
  ∀ i F1 H v H', i < xs.length → Same F F1 → Sub F1 H → Y i H v H' → ∃ x, xs[i]? = some x ∧ ((H' = H ∧ Rp K F v x) ∨ ∃ T vs ys, v = .ref T ∧ H T = none ∧ H' = upd H T (.tup vs) ∧ x = .tuple ys ∧ Rps K F vs ys)
def tDI (K : PySem.W.Frag) (E : Ent) (f : DTF) : TI := fun st H R => ∃ F r P, Rel K E F H st r ∧ f r P ∧ ∀ xs r' F' H' J, P xs r' → Aft K E F H st r F' H' r' → DWalk K F' J xs → R J H'
theorem wkI {tg it : Expr} {t t' : TI} (h : PI X tg it t) (k : ∀ st H R, t' st H R → t st H R) : PI X tg it t' := ⟨fun pins s st H R I q => h.run pins s st H R I (k _ _ _ q)⟩
/-- over a sequence that stays -/
def iSeq (fa : DT) (r : DEnv) (P : List PyData → DEnv → Prop) : Prop := dFz fa r fun s r1 => ∃ xs, (s = .d (.list xs)) ∧ P xs r1
def iTupD (fa : DT) (r : DEnv) (P : List PyData → DEnv → Prop) : Prop := dFz fa r fun s r1 => ∃ xs, (s = .d (.tuple xs)) ∧ P xs r1
theorem dwalk_list {p : Addr} {vs : List V} {xs : List PyData} (h : SqL K F p vs) (q : Rps K F vs xs) : DWalk K F (Itl K p) xs := by
  refine ⟨_, _, by rw [← rps_len q]; exact walk_list (K := K) (a := p) (xs := vs), fun F1 H s g => g.seq (s.seq h), fun i F1 H v H' hi s g y => ?_⟩
  obtain ⟨x, e, z⟩ := rps_at' q y.2
  exact ⟨x, e, .inl ⟨y.1, z⟩⟩
theorem dwalk_tup {p : Addr} {vs : List V} {xs : List PyData} (h : SqT K F p vs) (q : Rps K F vs xs) : DWalk K F (Itt K p) xs := by
  refine ⟨_, _, by rw [← rps_len q]; exact walk_tup (K := K) (a := p) (xs := vs), fun F1 H s g => g.tup (sameT s h), fun i F1 H v H' hi s g y => ?_⟩
  obtain ⟨x, e, z⟩ := rps_at' q y.2
  exact ⟨x, e, .inl ⟨y.1, z⟩⟩
theorem di_list {tg : Expr} (h : DE E X e fa) : PI X tg e (tDI X.K E (iSeq fa)) :=
  wkI (pi_list (de_fz h)) fun st H R ⟨F, r, P, R0, p, k⟩ => ⟨F, r, _, R0, p, fun s r1 v F1 H1 q1 A1 ok n => by
    obtain ⟨xs, e, q⟩ := q1
    subst e
    cases (show Rp X.K F1 v (.list xs) from ok) with
    | lst h1 h2 => exact ⟨_, rfl, ⟨_, A1.rel.sub.seq h1⟩, k _ _ _ _ _ q A1 (dwalk_list h1 h2)⟩⟩
theorem di_tup {tg : Expr} (h : DE E X e fa) : PI X tg e (tDI X.K E (iTupD fa)) :=
  wkI (pi_tup (de_fz h)) fun st H R ⟨F, r, P, R0, p, k⟩ => ⟨F, r, _, R0, p, fun s r1 v F1 H1 q1 A1 ok n => by
    obtain ⟨xs, e, q⟩ := q1
    subst e
    cases (show Rp X.K F1 v (.tuple xs) from ok) with
    | tup h1 h2 => exact ⟨_, rfl, ⟨_, A1.rel.sub.tup h1⟩, k _ _ _ _ _ q A1 (dwalk_tup h1 h2)⟩⟩
def rngL (lo : Int) (n : Nat) : List PyData := (List.range n).map fun i => .int (lo + (i : Nat))
theorem dwalk_range {lo : Int} {n : Nat} : DWalk K F (Itr lo n) (rngL lo n) := by
  refine ⟨_, _, by rw [show (rngL lo n).length = n by unfold rngL; simp]; exact walk_range (lo := lo) (n := n), fun _ _ _ _ => trivial, fun i F1 H v H' hi s g y => ?_⟩
  have hi' : i < n := by unfold rngL at hi; simpa using hi
  refine ⟨.int (lo + (i : Nat)), by unfold rngL; simp [hi'], .inl ⟨y.1, ?_⟩⟩
  rw [y.2]
  exact .int _
def bnd (i : Int) : Prop := -(2 ^ 62) ≤ i ∧ i < 2 ^ 62
def iRange1 (ga : DTF) (r : DEnv) (P : List PyData → DEnv → Prop) : Prop := ga r fun xs r1 => ∃ j, xs = [.int j] ∧ bnd j ∧ P (rngL 0 j.toNat) r1
def iRange2 (ga : DTF) (r : DEnv) (P : List PyData → DEnv → Prop) : Prop := ga r fun xs r1 => ∃ i j, xs = [.int i, .int j] ∧ bnd i ∧ bnd j ∧ P (rngL i (j - i).toNat) r1
theorem di_range1 {tg : Expr} {p pos : Pos} {ga : DTF} (hg : Gl X "range") (hm : X.mg "range" = none) (ha : DF E X [a] ga) (hs : starEach [a] X.env = [(false, eval a X.env)] := by rfl) : PI X tg (.Call (.Name "range" p) [a] [] pos) (tDI X.K E (iRange1 ga)) :=
  wkI (pi_range1 hg hm ha hs) fun st H R ⟨F, r, P, R0, p, k⟩ => ⟨F, r, _, R0, p, fun xs r1 vs F1 H1 q1 A1 ok => by
    obtain ⟨j, e, hb, q⟩ := q1
    subst e
    cases ok with
    | cons h t =>
      cases t
      cases h
      exact ⟨j, rfl, hb.1, hb.2, k _ _ _ _ _ q A1 dwalk_range⟩⟩
theorem di_range2 {tg : Expr} {p pos : Pos} {ga : DTF} (hg : Gl X "range") (hm : X.mg "range" = none) (ha : DF E X [a, b] ga) (hs : starEach [a, b] X.env = [(false, eval a X.env), (false, eval b X.env)] := by rfl) (hs2 : starEach [b] X.env = [(false, eval b X.env)] := by rfl) : PI X tg (.Call (.Name "range" p) [a, b] [] pos) (tDI X.K E (iRange2 ga)) :=
  wkI (pi_range2 hg hm ha hs hs2) fun st H R ⟨F, r, P, R0, p, k⟩ => ⟨F, r, _, R0, p, fun xs r1 vs F1 H1 q1 A1 ok => by
    obtain ⟨i, j, e, hb, hb', q⟩ := q1
    subst e
    cases ok with
    | cons h t =>
      cases t with
      | cons h' t =>
        cases t
        cases h
        cases h'
        exact ⟨i, j, rfl, ⟨hb.1, hb.2, hb'.1, hb'.2⟩, k _ _ _ _ _ q A1 dwalk_range⟩⟩
def ForIn (xs : List PyData) (r1 : DEnv) (tg : DTG) (g : DTS) (P : DEnds) : Prop := ∃ I : List PyData → DEnv → Prop, I [] r1 ∧
  (∀ pre x post r', xs = pre ++ x :: post → I pre r' → tg x r' fun r2 => g { P with nx := I (pre ++ [x]), ct := I (pre ++ [x]), bk := P.nx } r2) ∧ ∀ r', I xs r' → P.nx r'
def sFor (gi : DTF) (tg : DTG) (g : DTS) (P : DEnds) (r : DEnv) : Prop := gi r fun xs r1 => ForIn xs r1 tg g P
theorem split_at {α : Type} {xs : List α} {i : Nat} {x : α} (h : xs[i]? = some x) : xs = xs.take i ++ x :: xs.drop (i + 1) ∧ xs.take (i + 1) = xs.take i ++ [x] := by
  obtain ⟨hi, e⟩ := List.getElem?_eq_some_iff.mp h
  refine ⟨?_, ?_⟩
  · rw [← e, List.getElem_cons_drop, List.take_append_drop]
  · rw [List.take_succ, h]
    rfl
theorem ds_for {tg it : Expr} {gi : DTF} {dg : DTG} (h : PS X (.For tg it body [] pos) (tFor (tDI X.K E gi) (tDG X.K E dg) (tDS X.K E g))) : DS E X (.For tg it body [] pos) (sFor gi dg g) := by
  refine wkS h fun D st H ⟨F, r, P, R, p, k⟩ => ⟨F, r, _, R, p, fun xs r1 F1 H1 J q1 A1 w => ?_⟩
  obtain ⟨I, i0, step, fin⟩ := q1
  obtain ⟨G, Y, wk, gg, yy⟩ := w
  refine for_it wk (fun i st' H' => ∃ F2 r2, Rel X.K E F2 H' st' r2 ∧ Same F1 F2 ∧ I (xs.take i) r2) ⟨F1, r1, A1.rel, Same.refl _, by rw [List.take_zero]; exact i0⟩ (fun i st' H' _ ⟨F2, r2, R2, s2, _⟩ => gg F2 H' s2 R2.sub) ?_ ?_
  · rintro i v st' H2 H3 hi ⟨F2, r2, R2, s2, i2⟩ y
    obtain ⟨x, ex, alt⟩ := yy i F2 H2 v H3 hi s2 R2.sub y
    obtain ⟨e1, e2⟩ := split_at ex
    have body := step _ x _ r2 e1 i2
    rw [← e2] at body
    have go : ∀ F3, Rel X.K E F3 H3 st' r2 → Same F2 F3 → Rp X.K F3 v x → tDG X.K E dg v st' H3 fun σ2 H2 => tDS X.K E g
        { D with nx := fun st' H' => ∃ F2 r2, Rel X.K E F2 H' st' r2 ∧ Same F1 F2 ∧ I (xs.take (i + 1)) r2, ct := fun st' H' => ∃ F2 r2, Rel X.K E F2 H' st' r2 ∧ Same F1 F2 ∧ I (xs.take (i + 1)) r2, bk := D.nx } σ2 H2 := fun F3 R3 s3 ok =>
      ⟨F3, r2, _, x, R3, ok, body, fun r4 st4 F4 H4 p4 R4 s4 => ⟨F4, r4, _, R4, p4,
        fun r5 st5 F5 H5 p5 R5 s5 => ⟨F5, r5, R5, ((s2.trans s3).trans s4).trans s5, p5⟩, k.rt,
        fun r5 st5 F5 H5 p5 R5 s5 => k.nx _ _ _ _ p5 R5 ((((A1.stp.gf.trans s2).trans s3).trans s4).trans s5), fun r5 st5 F5 H5 p5 R5 s5 => ⟨F5, r5, R5, ((s2.trans s3).trans s4).trans s5, p5⟩⟩⟩
    rcases alt with ⟨rfl, ok⟩ | ⟨T, vs, ys, rfl, nT, rfl, rfl, ok⟩
    · exact go F2 R2 (Same.refl _) (rpM s2 ok)
    · have B := R2.new (o := .tup vs) nT
      exact go _ B.rel B.stp.gf (.tup (SqT.of upd_same) (rpsM (s2.trans B.stp.gf) ok))
  · rintro st' H' ⟨F2, r2, R2, s2, i2⟩
    rw [List.take_length] at i2
    exact k.nx _ _ _ _ (fin _ i2) R2 (A1.stp.gf.trans s2)
def WhileIn (r : DEnv) (t : DTT) (g : DTS) (P : DEnds) : Prop := ∃ I : Nat → DEnv → Prop, (∃ m, I m r) ∧ ∀ m r1, I m r1 → t r1 fun b r2 => if b = true then g { P with nx := fun r' => ∃ m', m' < m ∧ I m' r', ct := fun r' => ∃ m', m' < m ∧ I m' r', bk := P.nx } r2 else P.nx r2
def sWhile (t : DTT) (g : DTS) (P : DEnds) (r : DEnv) : Prop := WhileIn r t g P
theorem ds_while {t : DTT} (h : PS X (.While c body [] pos) (tWhile (tDT X.K E t) (tDS X.K E g))) : DS E X (.While c body [] pos) (sWhile t g) := by
  refine wkS h fun D st H ⟨F, r, P, R, p, k⟩ => ?_
  obtain ⟨I, ⟨m0, i0⟩, step⟩ := p
  refine ⟨fun m st' H' => ∃ F2 r2, Rel X.K E F2 H' st' r2 ∧ Same F F2 ∧ I m r2, ⟨m0, F, r, R, Same.refl _, i0⟩, ?_⟩
  rintro m st' H' ⟨F2, r2, R2, s2, i2⟩
  refine ⟨F2, r2, _, R2, step m r2 i2, fun b r3 F3 H3 q3 A3 => ?_⟩
  cases b with
  | true =>
    rw [if_pos rfl] at q3 ⊢
    refine ⟨fun st' H' => ∃ m', m' < m ∧ ∃ F2 r2, Rel X.K E F2 H' st' r2 ∧ Same F F2 ∧ I m' r2, fun st4 H4 ⟨m', hm, w⟩ => ⟨m', hm, w⟩, F3, r3, _, A3.rel, q3, fun r5 st5 F5 H5 p5 R5 s5 => ?_, k.rt, fun r5 st5 F5 H5 p5 R5 s5 => k.nx _ _ _ _ p5 R5 ((s2.trans A3.stp.gf).trans s5), fun r5 st5 F5 H5 p5 R5 s5 => ?_⟩
    · obtain ⟨m', hm, i5⟩ := p5
      exact ⟨m', hm, F5, r5, R5, (s2.trans A3.stp.gf).trans s5, i5⟩
    · obtain ⟨m', hm, i5⟩ := p5
      exact ⟨m', hm, F5, r5, R5, (s2.trans A3.stp.gf).trans s5, i5⟩
  | false =>
    rw [if_neg Bool.false_ne_true] at q3 ⊢
    exact k.nx _ _ _ _ q3 A3.rel (s2.trans A3.stp.gf)
end
end DL
set_option Elab.async false
set_option linter.all false
set_option autoImplicit false
set_option maxRecDepth 100000
set_option maxHeartbeats 4000000
/-! DLe: the data layer, part five: comprehensions. -/
namespace DL
open PySem PySem.Spec PyProof.Rows L2
section
variable {X : Cx} {E : Ent} {K : PySem.W.Frag} {F H F' H' : Hp} {st : St} {r r' : DEnv}
def wipeD (r : DEnv) : List Nat → DEnv
  | [] => r
  | v :: vs => (wipeD r vs).set v none
theorem wipeD_len (r : DEnv) : ∀ vs : List Nat, (wipeD r vs).length = r.length
  | [] => rfl
  | v :: vs => by unfold wipeD; rw [List.length_set, wipeD_len r vs]
theorem wipeD_some {r : DEnv} {i : Nat} {x : Sl} : ∀ {vs : List Nat}, (wipeD r vs)[i]? = some (some x) → r[i]? = some (some x) ∧ i ∉ vs
  | [], h => ⟨h, by simp⟩
  | v :: vs, h => by
    unfold wipeD at h
    by_cases e : v = i
    · subst e
      rw [List.getElem?_set] at h
      split at h
      · split at h <;> cases h
      · rename_i z; exact (z rfl).elim
    · rw [List.getElem?_set_ne e] at h
      obtain ⟨a, b⟩ := wipeD_some h
      exact ⟨a, fun m => by
        rcases List.mem_cons.mp m with z | z
        · exact e z.symm
        · exact b z⟩
theorem wipe_at {st : St} {i : Nat} : ∀ {vs : List Nat}, i ∉ vs → (wipe st vs)[i]? = st[i]?
  | [], _ => rfl
  | v :: vs, h => by
    unfold wipe
    rw [List.getElem?_set_ne (show v ≠ i from fun z => h (z ▸ List.mem_cons_self)), wipe_at fun m => h (List.mem_cons_of_mem _ m)]
theorem wipe_in {st : St} {i : Nat} : ∀ {vs : List Nat}, i ∈ vs → (wipe st vs)[i]? = if i < st.length then some none else none
  | v :: vs, h => by
    unfold wipe
    by_cases e : v = i
    · subst e
      rw [List.getElem?_set, if_pos rfl, wipe_length]
    · rw [List.getElem?_set_ne e]
      exact wipe_in (by
        rcases List.mem_cons.mp h with z | z
        · exact (e z.symm).elim
        · exact z)
theorem wipe_idem {st : St} {own : List Nat} : wipe (wipe st own) own = wipe st own := by
  apply List.ext_getElem?
  intro i
  by_cases h : i ∈ own
  · rw [wipe_in h, wipe_in h, wipe_length]
  · rw [wipe_at h]
/-- behind a comprehension its own names are as they were, if they held data -/
def keepD (r : DEnv) (i : Nat) : Option Sl := match r[i]? with
  | some (some (.d x)) => some (.d x)
  | _ => none
def backD (r0 r : DEnv) : List Nat → DEnv
  | [] => r
  | v :: vs => (backD r0 r vs).set v (keepD r0 v)
theorem backD_len (r0 r : DEnv) : ∀ vs : List Nat, (backD r0 r vs).length = r.length
  | [] => rfl
  | v :: vs => by unfold backD; rw [List.length_set, backD_len r0 r vs]
theorem backD_some {r0 r : DEnv} {i : Nat} {x : Sl} : ∀ {vs : List Nat}, (backD r0 r vs)[i]? = some (some x) → (i ∉ vs ∧ r[i]? = some (some x)) ∨ (i ∈ vs ∧ ∃ y, x = .d y ∧ r0[i]? = some (some (.d y)))
  | [], h => .inl ⟨by simp, h⟩
  | v :: vs, h => by
    unfold backD at h
    by_cases e : v = i
    · subst e
      rw [List.getElem?_set] at h
      split at h
      · split at h
        · have h : some (keepD r0 v) = some (some x) := h
          unfold keepD at h
          split at h
          · rename_i y q
            cases h
            exact .inr ⟨List.mem_cons_self, y, rfl, q⟩
          · cases h
        · cases h
      · rename_i z; exact (z rfl).elim
    · rw [List.getElem?_set_ne e] at h
      rcases backD_some h with ⟨a, b⟩ | ⟨a, b⟩
      · exact .inl ⟨fun m => by
          rcases List.mem_cons.mp m with z | z
          · exact e z.symm
          · exact a z, b⟩
      · exact .inr ⟨List.mem_cons_of_mem _ a, b⟩
theorem Rel.wiped (R : Rel K E F H st r) (own : List Nat) : Rel K E F H (wipe st own) (wipeD r own) := by
  refine ⟨R.sub, R.grow, R.keep, R.ever, R.nofr, by rw [wipe_length, wipeD_len]; exact R.len, fun i x q => ?_, fun i x q => ?_, fun i x q => ?_, fun i j s t a h1 h2 m1 m2 s1 s2 => ?_⟩
  · obtain ⟨a, b⟩ := wipeD_some q
    rw [wipe_at b]
    exact R.dat i x a
  · obtain ⟨a, b⟩ := wipeD_some q
    rw [wipe_at b]
    exact R.own i x a
  · obtain ⟨a, b⟩ := wipeD_some q
    rw [wipe_at b]
    exact R.bor i x a
  · exact R.sep i j s t a (wipeD_some h1).1 (wipeD_some h2).1 m1 m2 (wipe_some s1).1 (wipe_some s2).1
theorem mutA_wiped {own : List Nat} {a : Addr} (m : MutA (wipe st own) (wipeD r own) a) : MutA st r a := by
  obtain ⟨i, s, h1, h2, h3⟩ := m
  exact ⟨i, s, (wipeD_some h1).1, h2, (wipe_some h3).1⟩
/-- back in the frame -/
theorem Aft.unwiped {own : List Nat} (R : Rel K E F H st r) (A : Aft K E F H (wipe st own) (wipeD r own) F' H' r') : Aft K E F H st r F' H' (backD r r' own) := by
  have B := A.rel
  have mu : ∀ i s, (backD r r' own)[i]? = some (some s) → Sl.mu s = true → i ∉ own ∧ r'[i]? = some (some s) := fun i s q m => by
    rcases backD_some q with h | ⟨_, y, e, _⟩
    · exact h
    · subst e; cases m
  refine ⟨⟨B.sub, B.grow, B.keep, B.ever, B.nofr, by rw [backD_len, ← B.len, wipe_length], fun i x q => ?_, fun i x q => ?_, fun i x q => ?_, fun i j s t a h1 h2 m1 m2 s1 s2 => ?_⟩,
    ⟨A.stp.gf, fun a o e m => A.stp.keep a o e fun z => m (mutA_wiped z), A.stp.ever, fun a o e n m => A.stp.nofr a o e n fun z => m (mutA_wiped z)⟩, fun a ⟨i, s, h1, h2, h3⟩ => ?_⟩
  · rcases backD_some q with ⟨h1, h2⟩ | ⟨_, y, e, h2⟩
    · obtain ⟨v, e1, e2⟩ := B.dat i x h2
      rw [wipe_at h1] at e1
      exact ⟨v, e1, e2⟩
    · cases e
      obtain ⟨v, e1, e2⟩ := R.dat i _ h2
      exact ⟨v, e1, rpM A.stp.gf e2⟩
  · obtain ⟨h1, h2⟩ := mu i _ q rfl
    obtain ⟨p, e1, e2⟩ := B.own i x h2
    rw [wipe_at h1] at e1
    exact ⟨p, e1, e2⟩
  · obtain ⟨h1, h2⟩ := mu i _ q rfl
    obtain ⟨p, e1, e2⟩ := B.bor i x h2
    rw [wipe_at h1] at e1
    exact ⟨p, e1, e2⟩
  · obtain ⟨a1, a2⟩ := mu i s h1 m1
    obtain ⟨b1, b2⟩ := mu j t h2 m2
    exact B.sep i j s t a a2 b2 m1 m2 (by rw [wipe_at a1]; exact s1) (by rw [wipe_at b1]; exact s2)
  · obtain ⟨a1, a2⟩ := mu i s h1 h2
    obtain ⟨j, t, z1, z2, z3⟩ := A.mu a ⟨i, s, a2, h2, by rw [wipe_at a1]; exact h3⟩
    exact ⟨j, t, (wipeD_some z1).1, z2, (wipe_some z3).1⟩
/-- an object that no name has, and that is new, is written -/
theorem Aft.write {p : Addr} {o : HO} (A : Aft K E F H st r F' H' r') (e0 : E.H0 p = none) (n : H p = none) (f : F' p = none) (m : ¬ MutA st r' p) (h : ∃ u, H' p = some u) : Aft K E F H st r F' (upd H' p o) r' := by
  have B := A.rel
  have ob : ∀ q x, ObAt K F' H' q x → q ≠ p → ObAt K F' (upd H' p o) q x := fun q x z ne => z.mono (Same.refl _) z.some.2 fun w e => by rw [upd_ne ne]; exact e
  refine ⟨⟨fun a u q => ?_, B.grow, fun a u q z => ?_, fun a u q => ?_, B.nofr, B.len, B.dat, fun i x q => ?_, fun i x q => ?_, B.sep⟩, ⟨A.stp.gf, fun a u q z => ?_, fun a u q => ?_, A.stp.nofr⟩, A.mu⟩
  · have : a ≠ p := fun z => by rw [z, f] at q; cases q
    rw [upd_ne this]
    exact B.sub a u q
  · rw [upd_ne fun z => by rw [z, e0] at q; cases q]
    exact B.keep a u q z
  · by_cases h : a = p
    · rw [h, e0] at q; cases q
    · rw [upd_ne h]
      exact B.ever a u q
  · obtain ⟨w, q1, q2, q3⟩ := B.own i x q
    exact ⟨w, q1, q2, ob _ _ q3 fun z => m ⟨i, _, q, rfl, z ▸ q1⟩⟩
  · obtain ⟨w, q1, q2, q3, q4⟩ := B.bor i x q
    exact ⟨w, q1, q2, q3, ob _ _ q4 fun z => m ⟨i, _, q, rfl, z ▸ q1⟩⟩
  · rw [upd_ne fun e => by rw [e, n] at q; cases q]
    exact A.stp.keep a u q z
  · rw [upd_ne fun e => by rw [e, n] at q; cases q]
    exact A.stp.ever a u q

/-! ### a comprehension's targets: they store into its own names alone -/
def CT (K : PySem.W.Frag) (E : Ent) (own : List Nat) (g : TG) (dg : DTG) : Prop := ∀ v st H Q F r P x, Rel K E F H st r → Rp K F v x → dg x r P → (∀ r' st', P r' → Rel K E F H st' r' → wipe st' own = wipe st own → MutA st' r' = MutA st r → Q st' H) → g v st H Q
def CTs (K : PySem.W.Frag) (E : Ent) (own : List Nat) (g : TGs) (dg : DTGs) : Prop := ∀ vs st H Q F r P xs, Rel K E F H st r → Rps K F vs xs → dg xs r P → (∀ r' st', P r' → Rel K E F H st' r' → wipe st' own = wipe st own → MutA st' r' = MutA st r → Q st' H) → g vs st H Q
theorem wipe_set {st : St} {i : Nat} {v : Option V} : ∀ {own : List Nat}, i ∈ own → wipe (st.set i v) own = wipe st own
  | j :: js, h => by
    unfold wipe
    by_cases e : i ∈ js
    · rw [wipe_set e]
    · have : i = j := by
        rcases List.mem_cons.mp h with z | z
        · exact z
        · exact (e z).elim
      subst this
      clear h
      have out : ∀ (ks : List Nat), i ∉ ks → wipe (st.set i v) ks = (wipe st ks).set i v := fun ks => by
        induction ks with
        | nil => intro _; rfl
        | cons k ks ih =>
          intro h
          unfold wipe
          rw [ih fun m => h (List.mem_cons_of_mem _ m)]
          exact List.set_comm _ _ (fun z => h (z ▸ List.mem_cons_self))
      rw [out js e, List.set_set]
theorem mutA_put {i : Nat} {v : V} {x : PyData} (h : ∀ s, r[i]? = some (some s) → Sl.mu s = false) : MutA (st.set i (some v)) (r.set i (some (.d x))) = MutA st r := by
  funext a
  apply propext
  constructor
  · rintro ⟨j, s, h1, h2, h3⟩
    by_cases e : j = i
    · subst e
      rw [List.getElem?_set] at h1
      split at h1
      · split at h1
        · cases h1; cases h2
        · cases h1
      · rename_i z; exact (z rfl).elim
    · rw [List.getElem?_set_ne (Ne.symm e)] at h1 h3
      exact ⟨j, s, h1, h2, h3⟩
  · rintro ⟨j, s, h1, h2, h3⟩
    have e : j ≠ i := fun e => by
      subst e
      rw [h s h1] at h2
      cases h2
    exact ⟨j, s, by rw [List.getElem?_set_ne (Ne.symm e)]; exact h1, h2, by rw [List.getElem?_set_ne (Ne.symm e)]; exact h3⟩
/-- a name of its own; it holds no object of one's own -/
def hOwn (i : Nat) (x : PyData) (r : DEnv) (Q : DEnv → Prop) : Prop := (match r[i]? with
  | some (some s) => Sl.mu s = false
  | _ => True) ∧ Q (r.set i (some (.d x)))
theorem ct_name {own : List Nat} {i : Nat} (hi : i ∈ own) : CT K E own (gName i) (hOwn i) := fun v st H Q F r P x R q p k => by
  refine k _ _ p.2 (R.put (.inl ⟨x, rfl, q⟩)) (wipe_set hi) (mutA_put fun s e => ?_)
  have := p.1
  rw [e] at this
  exact this
theorem cts_nil {own : List Nat} : CTs K E own gNil hNil := fun vs st H Q F r P xs R q p k => by
  obtain ⟨e, p⟩ := p
  subst e
  cases q
  exact ⟨rfl, k _ _ p R rfl rfl⟩
theorem cts_cons {own : List Nat} {g : TG} {gs : TGs} {dg : DTG} {dgs : DTGs} (h1 : CT K E own g dg) (h2 : CTs K E own gs dgs) : CTs K E own (gCons g gs) (hCons dg dgs) := fun vs st H Q F r P xs R q p k => by
  obtain ⟨y, ys, e, p⟩ := p
  subst e
  cases q with
  | cons q1 q2 => exact ⟨_, _, rfl, h1 _ st H _ F r _ y R q1 p fun r1 st1 p1 R1 w1 m1 => h2 _ st1 H _ F r1 _ ys R1 q2 p1 fun r2 st2 p2 R2 w2 m2 => k _ _ p2 R2 (w2.trans w1) (m2.trans m1)⟩
theorem ct_tup {own : List Nat} {n : Nat} {gs : TGs} {dgs : DTGs} (h : CTs K E own gs dgs) : CT K E own (gTup K n gs) (hTup n dgs) := fun v st H Q F r P x R q p k => by
  obtain ⟨xs, e, l, p⟩ := p
  subst e
  cases q with
  | tup a b => exact ⟨_, _, rfl, R.sub.tup a, by rw [rps_len b]; exact l, h _ st H Q F r P xs R b p k⟩

/-- the comprehension's reading over data -/
def LcIn (xs : List PyData) (r1 : DEnv) (dg : DTG) (tt : DTT) (fe : DT) (own : List Nat) (P : Vl → DEnv → Prop) : Prop := ∃ I : List PyData → List PyData → DEnv → Prop, I [] [] (wipeD r1 own) ∧
  (∀ pre x post acc r', xs = pre ++ x :: post → I pre acc r' → dg x r' fun r2 => tt r2 fun b r3 => if b = true then dFz fe r3 fun s r4 => ∃ y, s = .d y ∧ acc.length < sizeLine ∧ I (pre ++ [x]) (acc ++ [y]) (wipeD r4 own)
    else I (pre ++ [x]) acc (wipeD r3 own)) ∧ ∀ acc r', I xs acc r' → P (.n (.list acc)) (backD r1 r' own)
def dLc (gi : DTF) (dg : DTG) (tt : DTT) (fe : DT) (own : List Nat) (r : DEnv) (P : Vl → DEnv → Prop) : Prop := gi r fun xs r1 => LcIn xs r1 dg tt fe own P
def dtYes (r : DEnv) (P : Bool → DEnv → Prop) : Prop := P true r
theorem lc_main {gi : DTF} {g : TG} {dg : DTG} {tt : DTT} {fe : DT} {own : List Nat} (ct : CT K E own g dg) : ∀ st H Q, tD K E (dLc gi dg tt fe own) st H Q → tLc (tDI K E gi) g (tDT K E tt) (tD K E (dFz fe)) own st H Q := by
  rintro st H Q ⟨F, r, P, R, p, k⟩
  refine ⟨F, r, _, R, p, fun xs r1 F1 H1 J q1 A1 w D nD => ?_⟩
  obtain ⟨I, i0, step, fin⟩ := q1
  obtain ⟨G, Y, wk, gg, yy⟩ := w
  have R1 := A1.rel.wiped own
  have e0 : E.H0 D = none := A1.rel.fresh0 nD
  have W1 : Aft K E F1 H1 (wipe st own) (wipeD r1 own) F1 (upd H1 D (.lst [])) (wipeD r1 own) := R1.newH nD
  refine lc_it wk (fun i H' => ∃ F2 r2 acc vs, Aft K E F1 H1 (wipe st own) (wipeD r1 own) F2 H' r2 ∧ H' D = some (.lst vs) ∧ F2 D = none ∧ ¬ MutA (wipe st own) r2 D ∧ Rps K F2 vs acc ∧ I (xs.take i) acc r2)
    ⟨F1, _, [], [], W1, upd_same, A1.rel.sub.free nD, R1.notMut nD, .nil, by rw [List.take_zero]; exact i0⟩ (fun i H' _ ⟨F2, r2, _, _, A2, _⟩ => gg F2 H' A2.stp.gf A2.rel.sub) ?_ ?_
  · rintro i v H2 H3 hi ⟨F2, r2, acc, vs, A2, hD, fD, mD, ra, i2⟩ y
    obtain ⟨x, ex, alt⟩ := yy i F2 H2 v H3 hi A2.stp.gf A2.rel.sub y
    obtain ⟨e1, e2⟩ := split_at ex
    have body := step _ x _ acc r2 e1 i2
    rw [← e2] at body
    have go : ∀ F3, Aft K E F1 H1 (wipe st own) (wipeD r1 own) F3 H3 r2 → Same F2 F3 → F3 D = none → H3 D = some (.lst vs) → Rp K F3 v x → g v (wipe st own) H3 fun st2 H2 => wipe st2 own = wipe st own ∧ tDT K E tt st2 H2 fun b H3 =>
        if b = true then tD K E (dFz fe) st2 H3 fun y H4 => ∃ acc, H4 D = some (.lst acc) ∧ acc.length < sizeLine ∧ (∃ F2 r2 acc2 vs, Aft K E F1 H1 (wipe st own) (wipeD r1 own) F2 (upd H4 D (.lst (acc ++ [y]))) r2 ∧
            (upd H4 D (.lst (acc ++ [y]))) D = some (.lst vs) ∧ F2 D = none ∧ ¬ MutA (wipe st own) r2 D ∧ Rps K F2 vs acc2 ∧ I (xs.take (i + 1)) acc2 r2)
        else ∃ F2 r2 acc vs, Aft K E F1 H1 (wipe st own) (wipeD r1 own) F2 H3 r2 ∧ H3 D = some (.lst vs) ∧ F2 D = none ∧ ¬ MutA (wipe st own) r2 D ∧ Rps K F2 vs acc ∧ I (xs.take (i + 1)) acc r2 := by
      intro F3 A3 s3 fD3 hD3 ok
      refine ct v (wipe st own) H3 _ F3 r2 _ x A3.rel ok body fun r4 st4 p4 R4 w4 m4 => ⟨w4.trans wipe_idem, F3, r4, _, R4, p4, fun b r5 F5 H5 q5 A5 => ?_⟩
      have mD4 : ¬ MutA st4 r4 D := by rw [m4]; exact mD
      have toW : ∀ {F6 H6 r6}, Aft K E F3 H3 st4 r4 F6 H6 r6 → Aft K E F1 H1 (wipe st own) (wipeD r1 own) F6 H6 (wipeD r6 own) ∧ H6 D = some (.lst vs) ∧ F6 D = none ∧ ¬ MutA st4 r6 D ∧ ¬ MutA (wipe st own) (wipeD r6 own) D := by
        intro F6 H6 r6 A6
        have z1 : H6 D = some (.lst vs) := A6.stp.keep D _ hD3 mD4
        have z2 : F6 D = none := A6.stp.nofr D _ hD3 fD3 mD4
        have z3 : ¬ MutA st4 r6 D := fun m => mD4 (A6.mu D m)
        have ew : wipe st4 own = wipe st own := w4.trans wipe_idem
        have RW : Rel K E F6 H6 (wipe st own) (wipeD r6 own) := by rw [← ew]; exact A6.rel.wiped own
        have mm : ∀ a, MutA (wipe st own) (wipeD r6 own) a → MutA (wipe st own) r2 a := fun a m => by
          rw [← ew] at m
          have m1 := A6.mu a (mutA_wiped m)
          rw [m4] at m1
          exact m1
        refine ⟨⟨RW, ⟨A3.stp.gf.trans A6.stp.gf, fun a o e m => ?_, fun a o e => ?_, fun a o e n m => ?_⟩, fun a m => A3.mu a (mm a m)⟩, z1, z2, z3, fun m => mD (mm D m)⟩
        · refine A6.stp.keep a o (A3.stp.keep a o e m) fun z => m (A3.mu a ?_)
          rw [m4] at z
          exact z
        · obtain ⟨u, q⟩ := A3.stp.ever a o e
          exact A6.stp.ever a u q
        · refine A6.stp.nofr a o (A3.stp.keep a o e m) (A3.stp.nofr a o e n m) fun z => m (A3.mu a ?_)
          rw [m4] at z
          exact z
      cases b with
      | false =>
        rw [if_neg Bool.false_ne_true] at q5
        show if false = true then _ else _
        rw [if_neg Bool.false_ne_true]
        obtain ⟨z1, z2, z3, z4, z5⟩ := toW A5
        exact ⟨F5, _, acc, vs, z1, z2, z3, z5, rpsM (s3.trans A5.stp.gf) ra, q5⟩
      | true =>
        rw [if_pos rfl] at q5
        show if true = true then _ else _
        rw [if_pos rfl]
        refine ⟨F5, r5, _, A5.rel, q5, fun s r6 u F6 H6 q6 A6 ok6 n6 => ?_⟩
        obtain ⟨y, es, hl, i6⟩ := q6
        subst es
        obtain ⟨z1, z2, z3, z4, z5⟩ := toW (A5.trans A6)
        have ra6 := rpsM ((s3.trans A5.stp.gf).trans A6.stp.gf) ra
        exact ⟨vs, z2, by rw [rps_len ra6]; exact hl, F6, _, acc ++ [y], _, z1.write e0 nD z3 z5 ⟨_, z2⟩, upd_same, z3, z5, rps_app ra6 (.cons ok6 .nil), i6⟩
    rcases alt with ⟨rfl, ok⟩ | ⟨T, ws, ys, rfl, nT, rfl, rfl, ok⟩
    · exact go F2 A2 (Same.refl _) fD hD (rpM A2.stp.gf ok)
    · have B := A2.rel.new (o := .tup ws) nT
      have nTD : D ≠ T := ne_of_none hD nT
      exact go _ (A2.trans B) B.stp.gf (by rw [upd_ne nTD]; exact fD) (by rw [upd_ne nTD]; exact hD) (.tup (SqT.of upd_same) (rpsM (A2.stp.gf.trans B.stp.gf) ok))
  · rintro H' ⟨F2, r2, acc, vs, A2, hD, fD, mD, ra, i2⟩
    rw [List.take_length] at i2
    have A3 := A1.trans (A2.unwiped A1.rel)
    refine k (.n (.list acc)) _ _ F2 H' (fin acc r2 i2) A3 ⟨D, rfl, ⟨vs, fD, hD, ra⟩, fun m => mD ?_⟩ fun p e => ?_
    · obtain ⟨j, s, h1, h2, h3⟩ := m
      rcases backD_some h1 with ⟨a, b⟩ | ⟨_, y, e, _⟩
      · exact ⟨j, s, b, h2, by rw [wipe_at a]; exact h3⟩
      · subst e; cases h2
    · cases e
      exact A1.newBack (v := V.ref D) (s := .n (.list acc)) (fun q e => by cases e; exact nD) D rfl
end
end DL
set_option Elab.async false
set_option linter.all false
set_option autoImplicit false
set_option maxRecDepth 100000
set_option maxHeartbeats 4000000
/-! DLf: the data layer, part six: comprehensions as rules; promises of defs and their calls. -/
namespace DL
open PySem PySem.Spec PyProof.Rows L2
section
variable {X : Cx} {E : Ent} {K : PySem.W.Frag} {F H F' H' : Hp} {st : St} {r r' : DEnv} {pos : Pos}
theorem dpts_nil : PTs X [] (tDT X.K E dtYes) := ⟨fun pins s st H Q I ⟨F, r, P, R, p, k⟩ => (pts_nil (X := X)).run pins s st H Q I (k _ _ _ _ p (.refl R))⟩
theorem dpts_one {c : Expr} {t : DTT} (h : DTe E X c t) : PTs X [c] (tDT X.K E t) := pts_one h
theorem de_lc {elt tg iter : Expr} {ifs : List Expr} {scope : Scope} {own : List (Str × Nat)} {gi : DTF} {g : TG} {dg : DTG} {tt : DTT} {fe : DT} (hc : X.calm = true) (hN : X.N.Nodup) (hi : PI X tg iter (tDI X.K E gi)) (ok : BlkOk X.N X.env.scope scope own)
    (ct : CT X.K E (own.map (·.2)) g dg) (hg : ∀ (s : Shared) (H : Hp) (C : Addr) (cl : List (Str × Addr)) (fp : List Addr), PG (X.blk s H scope (compEnvC scope cl C X.env) fp) tg g)
    (ht : ∀ (s : Shared) (H : Hp) (C : Addr) (cl : List (Str × Addr)) (fp : List Addr), PTs (X.blk s H scope (compEnvC scope cl C X.env) fp) ifs (tDT X.K E tt))
    (he : ∀ (s : Shared) (H : Hp) (C : Addr) (cl : List (Str × Addr)) (fp : List Addr), DE E (X.blk s H scope (compEnvC scope cl C X.env) fp) elt fe) (hs : ∀ x, foldedSetIterable iter X.env x = pure x := by intro _; rfl) :
    DE E X (.ListComp elt [⟨tg, iter, ifs, 0⟩] scope pos) (dLc gi dg tt fe (own.map (·.2))) :=
  wkE (pe_lc (te := tD X.K E (dFz fe)) hc hN hi ok hg ht (fun s H C cl fp => de_fz (he s H C cl fp)) hs) (lc_main ct)
/-- name = [..] -/
theorem ds_setLc {i : Nat} {y : Str} {py : Pos} {elt tg iter : Expr} {ifs : List Expr} {scope : Scope} {own : List (Str × Nat)} {spos : Pos} {gi : DTF} {g : TG} {dg : DTG} {tt : DTT} {fe : DT} (hc : X.calm = true) (hN : X.N.Nodup) (hy : X.N[i]? = some y) (hyl : X.env.scope.names.lookup y = some .local)
    (hsw : swapsWith (.ListComp elt [⟨tg, iter, ifs, 0⟩] scope pos) (some (.Name y py)) spos.line X.env = pure true) (hi : PI X tg iter (tDI X.K E gi)) (ok : BlkOk X.N X.env.scope scope own)
    (ct : CT X.K E (own.map (·.2)) g dg) (hg : ∀ (s : Shared) (H : Hp) (C : Addr) (cl : List (Str × Addr)) (fp : List Addr), PG (X.blk s H scope (compEnvC scope cl C X.env) fp) tg g)
    (ht : ∀ (s : Shared) (H : Hp) (C : Addr) (cl : List (Str × Addr)) (fp : List Addr), PTs (X.blk s H scope (compEnvC scope cl C X.env) fp) ifs (tDT X.K E tt))
    (he : ∀ (s : Shared) (H : Hp) (C : Addr) (cl : List (Str × Addr)) (fp : List Addr), DE E (X.blk s H scope (compEnvC scope cl C X.env) fp) elt fe) (hs : ∀ x, foldedSetIterable iter X.env x = pure x := by intro _; rfl) :
    DS E X (.Assign [.Name y py] (.ListComp elt [⟨tg, iter, ifs, 0⟩] scope pos) spos) (sSet i (dLc gi dg tt fe (own.map (·.2)))) := by
  have h := ps_setLc (i := i) (spos := spos) (py := py) (te := tD X.K E (dFz fe)) hc hN hy hyl hsw hi ok hg ht (fun s H C cl fp => de_fz (he s H C cl fp)) hs
  exact ds_set (wkS h fun D st H q => lc_main ct st H _ q)

/-! ### promises -/
/-- what is raised: the class's name, its fields -/
structure Exn where
  name : Str
  fs : List (Str × PyData) := []
def ExnOk (K : PySem.W.Frag) (mg : Str → Option Value) (F H : Hp) (x : Exn) (cls : Value) (d : Option Addr) : Prop :=
  (∃ C, mg x.name = some (.ref C) ∧ cls = .ref C) ∧ ((x.fs = [] ∧ d = none) ∨ ∃ a gs, d = some a ∧ H a = some (.xd gs) ∧ Paired (fun (p : Str × V) (q : Str × PyData) => p.1 = q.1 ∧ Rp K F p.2 q.2) gs x.fs)
structure ArgsOk (K : PySem.W.Frag) (F H : Hp) (vs : List V) (as : List Sl) (bp : Option Addr) : Prop where
  len : vs.length = as.length
  dat : ∀ (i : Nat) (x : PyData), as[i]? = some (Sl.d x) → ∃ v, vs[i]? = some v ∧ Rp K F v x
  bor : ∀ (i : Nat) (x : PyData), as[i]? = some (Sl.b x) → ∃ p, vs[i]? = some (V.ref p) ∧ bp = some p ∧ ObAt K F H p x
  one : ∀ (i j : Nat) (x y : PyData), as[i]? = some (Sl.b x) → as[j]? = some (Sl.b y) → i = j
  nol : ∀ (i : Nat) (x : PyData), as[i]? ≠ some (Sl.l x)
  has : ∀ p, bp = some p → ∃ (i : Nat) (x : PyData), as[i]? = some (Sl.b x)
/-- what a call leaves -/
structure Left (K : PySem.W.Frag) (F H : Hp) (bp : Option Addr) (F' H' : Hp) (cs : Option PyData) : Prop where
  gf : Same F F'
  sub : Sub F' H'
  keep : ∀ a o, H a = some o → bp ≠ some a → H' a = some o
  ever : ∀ a o, H a = some o → ∃ u, H' a = some u
  nofr : ∀ a o, H a = some o → F a = none → F' a = none
  con : ∀ p, bp = some p → ∃ y, cs = some y ∧ ObAt K F' H' p y
def ResOk (K : PySem.W.Frag) (F' H' H : Hp) (v : V) : Sl → Prop
  | .d x => Rp K F' v x
  | .l x => ∃ p, v = .ref p ∧ ObAt K F' H' p x ∧ H p = none
  | .b _ => False
/-- what a def does over data: its arguments; what is wanted of the result and of the lent object; of what is raised -/
abbrev DSpec := List Sl → (Sl → Option PyData → Prop) → (Exn → Prop) → Prop
def spD (K : PySem.W.Frag) (mg : Str → Option Value) (n : Nat) (S : DSpec) : Sp := fun vs H Q EX => vs.length = n ∧ ∃ F as bp P PX, Sub F H ∧ ArgsOk K F H vs as bp ∧ S as P PX ∧
  (∀ s cs v F' H', P s cs → Left K F H bp F' H' cs → ResOk K F' H' H v s → Q v H') ∧ ∀ x cls d F' H', PX x → bp = none → Left K F H none F' H' none → ExnOk K mg F' H' x cls d → EX cls d H'
/-- the lent object at the end -/
def exitB : List Sl → DEnv → Option (Option PyData)
  | [], _ => some none
  | .b _ :: _, some (.b y) :: _ => some (some y)
  | .b _ :: _, _ => none
  | _ :: as, _ :: r => exitB as r
  | _ :: _, [] => none
theorem exitB_at : ∀ {as : List Sl} {r : DEnv} {cs : Option PyData} {i : Nat} {x : PyData}, exitB as r = some cs → as[i]? = some (Sl.b x) → (∀ (j : Nat) (y : PyData), as[j]? = some (Sl.b y) → j = i) → ∃ y, cs = some y ∧ r[i]? = some (some (Sl.b y))
  | [], _, _, i, _, _, h, _ => by simp at h
  | .b z :: as, r, cs, i, x, e, h, o => by
    have i0 : (0 : Nat) = i := o 0 z rfl
    subst i0
    match r, e with
    | some (.b y) :: r, e => exact ⟨y, (Option.some.inj e).symm, rfl⟩
    | some (.d y) :: r, e => cases e
    | some (.l y) :: r, e => cases e
    | none :: r, e => cases e
    | [], e => cases e
  | .d z :: as, r, cs, 0, x, e, h, o => by simp at h
  | .l z :: as, r, cs, 0, x, e, h, o => by simp at h
  | .d z :: as, t :: r, cs, i + 1, x, e, h, o => by
    have e' : exitB as r = some cs := e
    exact exitB_at (r := r) e' (by simpa using h) fun j y q => Nat.succ.inj (o (j + 1) y (by simpa using q))
  | .l z :: as, t :: r, cs, i + 1, x, e, h, o => by
    have e' : exitB as r = some cs := e
    exact exitB_at (r := r) e' (by simpa using h) fun j y q => Nat.succ.inj (o (j + 1) y (by simpa using q))
  | .d z :: as, [], cs, i + 1, x, e, h, o => by cases e
  | .l z :: as, [], cs, i + 1, x, e, h, o => by cases e
/-- the names at a def's entry -/
def entD (n : Nat) (as : List Sl) : DEnv := as.map some ++ List.replicate (n - as.length) none
theorem entD_at {n : Nat} {as : List Sl} {i : Nat} {s : Sl} (h : (entD n as)[i]? = some (some s)) : as[i]? = some s := by
  unfold entD at h
  by_cases hi : i < as.length
  · rw [List.getElem?_append_left (by simpa using hi), List.getElem?_map] at h
    cases e : as[i]? with
    | none => rw [e] at h; cases h
    | some a => rw [e] at h; cases h; rfl
  · rw [List.getElem?_append_right (by simpa using hi), List.getElem?_replicate] at h
    split at h <;> cases h
theorem start_at {N : List Str} {vs : List V} {i : Nat} {v : V} (h : vs[i]? = some v) : (L2.start N vs)[i]? = some (some v) := by
  unfold L2.start
  rw [List.getElem?_append_left (by simpa using (List.getElem?_eq_some_iff.mp h).1), List.getElem?_map, h]
  rfl
theorem rel_entry {N : List Str} {vs : List V} {as : List Sl} {bp : Option Addr} (g : Sub F H) (A : ArgsOk K F H vs as bp) : Rel K ⟨F, H, vs, bp.toList⟩ F H (L2.start N vs) (entD N.length as) := by
  refine ⟨g, Same.refl _, fun _ _ e _ => e, fun _ o e => ⟨o, e⟩, fun _ _ _ e => e, ?_, fun i x q => ?_, fun i x q => ?_, fun i x q => ?_, fun i j s t a h1 h2 m1 m2 s1 s2 => ?_⟩
  · unfold L2.start entD
    simp [A.len]
  · obtain ⟨v, e, z⟩ := A.dat i x (entD_at q)
    exact ⟨v, start_at e, z⟩
  · exact (A.nol i x (entD_at q)).elim
  · obtain ⟨p, e, hb, z⟩ := A.bor i x (entD_at q)
    exact ⟨p, start_at e, e, by rw [hb]; simp, z⟩
  · cases s with
    | d x => cases m1
    | l x => exact (A.nol i x (entD_at h1)).elim
    | b x => cases t with
      | d y => cases m2
      | l y => exact (A.nol j y (entD_at h2)).elim
      | b y => exact A.one i j x y (entD_at h1) (entD_at h2)
/-- from a frame: what it leaves -/
theorem Rel.left {vs : List V} {as : List Sl} {bp : Option Addr} {F0 H0 : Hp} {cs : Option PyData} (A : ArgsOk K F0 H0 vs as bp) (R : Rel K ⟨F0, H0, vs, bp.toList⟩ F H st r) (e : exitB as r = some cs) : Left K F0 H0 bp F H cs := by
  refine ⟨R.grow, R.sub, fun a o q n => R.keep a o q fun m => n ?_, R.ever, R.nofr, fun p q => ?_⟩
  · cases bp with
    | none => simp at m
    | some p => simp at m; rw [m]
  · obtain ⟨i, x, h⟩ := A.has p q
    obtain ⟨y, e1, e2⟩ := exitB_at e h fun j y z => A.one j i y x z h
    refine ⟨y, e1, ?_⟩
    obtain ⟨p', _, z1, _, z2⟩ := R.bor i y e2
    obtain ⟨p2, w1, w2, _⟩ := A.bor i x h
    have z1 : vs[i]? = some (V.ref p') := z1
    rw [w1] at z1
    cases z1
    rw [q] at w2
    cases w2
    exact z2
end
section
variable {P : Program} {w : World} {K : PySem.W.Frag} {mg : Str → Option Value} {base : Heap}
def Sl.isB : Sl → Bool
  | .b _ => true
  | _ => false
def noB (as : List Sl) : Bool := as.all fun s => !s.isB
/-- how a def's end is told -/
def endD (as : List Sl) (Q : Sl → Option PyData → Prop) : DEnds where
  nx := fun r => ∃ cs, exitB as r = some cs ∧ Q (.d .none) cs
  rt := fun s r => ∃ cs, exitB as r = some cs ∧ Q s cs
/-- what a body may raise -/
def RaisesOk (K : PySem.W.Frag) (mg : Str → Option Value) (E : Ent) (PX : Exn → Prop) (EX : XK) : Prop := ∀ F st r H x cls d, Rel K E F H st r → PX x → ExnOk K mg F H x cls d → EX cls d H
/-- a def, by its body's reading over data -/
theorem fnD {x qual : Str} {st : Stmt} {f : Addr} {fd : FuncData} {N ps : List Str} {k : Nat} {S : DSpec} (F : Fun K x qual st f fd) (Sc : FnScope N ps (defScope st))
    (body : ∀ (cdv : Value) (A : Around) (outer : List Env) (s : Shared) (H : Hp) (EX : XK) (E : Ent) (as : List Sl) (Q : Sl → Option PyData → Prop) (PX : Exn → Prop),
      Room k (A.deeper (envOfC qual (defScope st) s.heap.objs.size f cdv)) → A.guards = some [] → as.length = ps.length → S as Q PX → (noB as = true → RaisesOk K mg E PX EX) →
      ∃ g, DSs E (cxOf (L2.CX P w) P w K mg base N qual (defScope st) f cdv A outer s H EX) (defBody st) g ∧ g (endD as Q) (entD N.length as)) :
    FnG P w K mg base (k + 1) f fd ps (spD K mg ps.length S) := by
  refine Fun.okG F Sc (fun vs H Q EX h => h.1) fun cdv A outer s H vs Q EX hr hg h => ?_
  obtain ⟨hl, F0, as, bp, P0, PX, g0, A0, hS, hq, hx⟩ := h
  obtain ⟨g, hg1, hg2⟩ := body cdv A outer s H EX ⟨F0, H, vs, bp.toList⟩ as P0 PX hr hg (by rw [← A0.len]; exact hl) hS (fun hbs F1 st1 r1 H1 x cls d R1 px ex => by
    have e : bp = none := by
      cases bp with
      | none => rfl
      | some p =>
        obtain ⟨i, x, e⟩ := A0.has p rfl
        have := List.all_eq_true.mp hbs _ (List.mem_of_getElem? e)
        cases this
    subst e
    exact hx x cls d F1 H1 px rfl ⟨R1.grow, R1.sub, fun a o q _ => R1.keep a o q (by simp), R1.ever, R1.nofr, fun p q => nomatch q⟩ ex)
  refine ⟨_, hg1, F0, entD N.length as, endD as P0, rel_entry g0 A0, hg2, ⟨?_, ?_, fun _ _ _ _ z => z.elim, fun _ _ _ _ z => z.elim⟩⟩
  · rintro r' st' F' H' ⟨cs, e, q⟩ R' _
    exact hq _ cs .non F' H' q (R'.left A0 e) .non
  · rintro s r' v st' F' H' ⟨cs, e, q⟩ R' ok
    refine hq _ cs v F' H' q (R'.left A0 e) ?_
    cases s with
    | d x => exact ok
    | l x =>
      obtain ⟨p, e1, z, e0⟩ := ok
      exact ⟨p, e1, z, e0⟩
    | b x => exact ok
end
end DL
set_option Elab.async false
set_option linter.all false
set_option autoImplicit false
set_option maxRecDepth 100000
set_option maxHeartbeats 4000000
/-! DLg: the data layer, part seven: calls of defs. -/
namespace DL
open PySem PySem.Spec PyProof.Rows L2
def argOf (r : DEnv) : Vl → Option Sl
  | .d x => some (.d x)
  | .v i => match r[i]? with
    | some (some (.l x)) => some (.b x)
    | some (some (.b x)) => some (.b x)
    | _ => none
  | .n _ => none
def argsOf (r : DEnv) : List Vl → Option (List Sl)
  | [] => some []
  | s :: t => match argOf r s, argsOf r t with
    | some a, some b => some (a :: b)
    | _, _ => none
def oneB : List Sl → Bool
  | [] => true
  | .b _ :: t => noB t
  | _ :: t => oneB t
def firstV : List Vl → Option Nat
  | [] => none
  | .v i :: _ => some i
  | _ :: t => firstV t
def setC (r : DEnv) (i : Nat) (y : PyData) : DEnv := match r[i]? with
  | some (some (.l _)) => r.set i (some (.l y))
  | some (some (.b _)) => r.set i (some (.b y))
  | _ => r
def putB (r : DEnv) (ss : List Vl) : Option PyData → DEnv
  | none => r
  | some y => match firstV ss with
    | some i => setC r i y
    | none => r
def resV : Sl → Vl
  | .d x => .d x
  | .l x => .n x
  | .b x => .n x
section
variable {X : Cx} {E : Ent} {K : PySem.W.Frag} {F H F' H' : Hp} {st : St} {r r' : DEnv} {pos : Pos} {ss : List Vl} {as : List Sl} {vs : List V}
theorem args_get : ∀ {ss : List Vl} {as : List Sl}, argsOf r ss = some as → ss.length = as.length ∧ ∀ (i : Nat) (a : Sl), as[i]? = some a → ∃ s, ss[i]? = some s ∧ argOf r s = some a
  | [], as, h => by
    cases (show some [] = some as from h)
    exact ⟨rfl, fun i a e => by simp at e⟩
  | s :: t, as, h => by
    unfold argsOf at h
    split at h
    · rename_i a b h1 h2
      cases h
      obtain ⟨l, g⟩ := args_get h2
      refine ⟨congrArg (· + 1) l, fun i x e => ?_⟩
      cases i with
      | zero =>
        simp only [List.getElem?_cons_zero, Option.some.injEq] at e ⊢
        exact ⟨s, rfl, e ▸ h1⟩
      | succ i =>
        simp only [List.getElem?_cons_succ] at e ⊢
        exact g i x e
    · cases h
theorem paired_get {α β : Type} {R : α → β → Prop} {xs : List α} {ys : List β} (h : Paired R xs ys) : ∀ {i : Nat} {y : β}, ys[i]? = some y → ∃ x, xs[i]? = some x ∧ R x y := by
  induction h with
  | nil => intro i y e; simp at e
  | cons a _ ih =>
    intro i y e
    cases i with
    | zero =>
      simp only [List.getElem?_cons_zero, Option.some.injEq] at e ⊢
      exact ⟨_, rfl, e ▸ a⟩
    | succ i =>
      simp only [List.getElem?_cons_succ] at e ⊢
      exact ih e
theorem paired_len {α β : Type} {R : α → β → Prop} {xs : List α} {ys : List β} (h : Paired R xs ys) : xs.length = ys.length := by
  induction h with
  | nil => rfl
  | cons _ _ ih => exact congrArg (· + 1) ih
theorem noB_at {as : List Sl} (h : noB as = true) {i : Nat} {x : PyData} : as[i]? ≠ some (Sl.b x) := fun e => by
  have := List.all_eq_true.mp h _ (List.mem_of_getElem? e)
  cases this
theorem oneB_one : ∀ {as : List Sl}, oneB as = true → ∀ (i j : Nat) (x y : PyData), as[i]? = some (Sl.b x) → as[j]? = some (Sl.b y) → i = j
  | [], _, i, _, _, _, e, _ => by simp at e
  | .b z :: t, h, i, j, x, y, e1, e2 => by
    cases i with
    | zero => cases j with
      | zero => rfl
      | succ j => exact (noB_at h (by simpa using e2)).elim
    | succ i => exact (noB_at h (by simpa using e1)).elim
  | .d z :: t, h, i, j, x, y, e1, e2 => by
    cases i with
    | zero => simp at e1
    | succ i => cases j with
      | zero => simp at e2
      | succ j => exact congrArg (· + 1) (oneB_one (as := t) h i j x y (by simpa using e1) (by simpa using e2))
  | .l z :: t, h, i, j, x, y, e1, e2 => by
    cases i with
    | zero => simp at e1
    | succ i => cases j with
      | zero => simp at e2
      | succ j => exact congrArg (· + 1) (oneB_one (as := t) h i j x y (by simpa using e1) (by simpa using e2))
theorem firstV_mem : ∀ {ss : List Vl} {i : Nat}, firstV ss = some i → ∃ j : Nat, ss[j]? = some (Vl.v i)
  | .v k :: t, i, h => by cases (show some k = some i from h); exact ⟨0, rfl⟩
  | .d x :: t, i, h => by
    obtain ⟨j, e⟩ := firstV_mem (ss := t) (show firstV t = some i from h)
    exact ⟨j + 1, by simpa using e⟩
  | .n x :: t, i, h => by
    obtain ⟨j, e⟩ := firstV_mem (ss := t) (show firstV t = some i from h)
    exact ⟨j + 1, by simpa using e⟩
theorem argOf_v {i : Nat} {a : Sl} (h : argOf r (.v i) = some a) : ∃ s, r[i]? = some (some s) ∧ Sl.mu s = true ∧ a = .b s.it := by
  have h : (match r[i]? with
    | some (some (.l x)) => some (.b x)
    | some (some (.b x)) => some (.b x)
    | _ => none) = some a := h
  split at h
  · rename_i x e; cases h; exact ⟨_, e, rfl, rfl⟩
  · rename_i x e; cases h; exact ⟨_, e, rfl, rfl⟩
  · cases h
theorem firstV_at : ∀ {ss : List Vl} {as : List Sl} {i j : Nat}, argsOf r ss = some as → oneB as = true → ss[i]? = some (Vl.v j) → firstV ss = some j
  | [], _, i, _, _, _, e => by simp at e
  | s :: t, as, i, j, h, o, e => by
    unfold argsOf at h
    split at h
    · rename_i a b h1 h2
      cases h
      cases s with
      | d x =>
        cases (show some (Sl.d x) = some a from h1)
        cases i with
        | zero => simp at e
        | succ i => exact firstV_at (ss := t) h2 o (by simpa using e)
      | n x => cases h1
      | v k =>
        obtain ⟨s, _, _, ea⟩ := argOf_v h1
        subst ea
        cases i with
        | zero => simp only [List.getElem?_cons_zero, Option.some.injEq, Vl.v.injEq] at e; subst e; rfl
        | succ i =>
          exfalso
          have e : t[i]? = some (Vl.v j) := by simpa using e
          obtain ⟨l, g⟩ := args_get h2
          have hi : i < b.length := by rw [← l]; exact (List.getElem?_eq_some_iff.mp e).1
          obtain ⟨s', e1, e2⟩ := g i b[i] (by simp [hi])
          rw [e] at e1
          cases e1
          obtain ⟨s3, _, _, e3⟩ := argOf_v e2
          exact noB_at o (i := i) (x := s3.it) (by rw [← e3]; simp [hi])
    · cases h
def bpOf (st : St) (ss : List Vl) : Option Addr := match firstV ss with
  | some i => match st[i]? with
    | some (some (.ref p)) => some p
    | _ => none
  | none => none
theorem Rel.mu_at {i : Nat} {s : Sl} (R : Rel K E F H st r) (e : r[i]? = some (some s)) (m : Sl.mu s = true) : ∃ p, st[i]? = some (some (V.ref p)) ∧ ObAt K F H p s.it := by
  cases s with
  | d x => cases m
  | l x => obtain ⟨p, a, _, b⟩ := R.own i x e; exact ⟨p, a, b⟩
  | b x => obtain ⟨p, a, _, _, b⟩ := R.bor i x e; exact ⟨p, a, b⟩
theorem args_ok (R : Rel K E F H st r) (h : Paired (VlOk K F H st r) vs ss) (e : argsOf r ss = some as) (o : oneB as = true) : ArgsOk K F H vs as (bpOf st ss) ∧
    ∀ p, bpOf st ss = some p → ∃ i s, firstV ss = some i ∧ r[i]? = some (some s) ∧ Sl.mu s = true ∧ st[i]? = some (some (V.ref p)) := by
  obtain ⟨hl, g⟩ := args_get e
  have slot : ∀ i, firstV ss = some i → ∃ s, r[i]? = some (some s) ∧ Sl.mu s = true := fun i q => by
    obtain ⟨j, ej⟩ := firstV_mem q
    have hj : j < as.length := by rw [← hl]; exact (List.getElem?_eq_some_iff.mp ej).1
    obtain ⟨s, e1, e2⟩ := g j as[j] (by simp [hj])
    rw [ej] at e1
    cases e1
    obtain ⟨s, a, b, _⟩ := argOf_v e2
    exact ⟨s, a, b⟩
  refine ⟨⟨(paired_len h).trans hl, fun i x q => ?_, fun i x q => ?_, oneB_one o, fun i x q => ?_, fun p q => ?_⟩, fun p q => ?_⟩
  · obtain ⟨s, e1, e2⟩ := g i _ q
    obtain ⟨v, e3, ok⟩ := paired_get h e1
    cases s with
    | d y => cases (show some (Sl.d y) = some (Sl.d x) from e2); exact ⟨v, e3, ok⟩
    | v j => obtain ⟨s, _, _, z⟩ := argOf_v e2; cases z
    | n y => cases e2
  · obtain ⟨s, e1, e2⟩ := g i _ q
    obtain ⟨v, e3, ok⟩ := paired_get h e1
    cases s with
    | d y => cases e2
    | n y => cases e2
    | v j =>
      obtain ⟨s, a, b, z⟩ := argOf_v e2
      cases z
      obtain ⟨p, w1, w2⟩ := R.mu_at a b
      have ok : st[j]? = some (some v) := ok
      rw [w1] at ok
      cases ok
      refine ⟨p, e3, ?_, w2⟩
      unfold bpOf
      rw [firstV_at e o e1]
      simp only [w1]
  · obtain ⟨s, e1, e2⟩ := g i _ q
    cases s with
    | d y => cases e2
    | v j => obtain ⟨s, _, _, z⟩ := argOf_v e2; cases z
    | n y => cases e2
  · unfold bpOf at q
    split at q
    · rename_i i ei
      obtain ⟨j, ej⟩ := firstV_mem ei
      have hj : j < as.length := by rw [← hl]; exact (List.getElem?_eq_some_iff.mp ej).1
      obtain ⟨s, e1, e2⟩ := g j as[j] (by simp [hj])
      rw [ej] at e1
      cases e1
      obtain ⟨s, a, b, z⟩ := argOf_v e2
      exact ⟨j, s.it, by rw [← z]; simp [hj]⟩
    · cases q
  · unfold bpOf at q
    split at q
    · rename_i i ei
      split at q
      · rename_i p' ep
        cases q
        obtain ⟨s, a, b⟩ := slot i ei
        exact ⟨i, s, by first | rfl | assumption, a, b, ep⟩
      · cases q
    · cases q
theorem setC_at {i : Nat} {y : PyData} {s : Sl} (e : r[i]? = some (some s)) (m : Sl.mu s = true) : ∃ s', setC r i y = r.set i (some s') ∧ Sl.mu s' = true ∧ ((∃ x, s = .l x) ∧ s' = .l y ∨ (∃ x, s = .b x) ∧ s' = .b y) := by
  cases s with
  | d x => cases m
  | l x => exact ⟨.l y, by unfold setC; rw [e], rfl, .inl ⟨⟨x, rfl⟩, rfl⟩⟩
  | b x => exact ⟨.b y, by unfold setC; rw [e], rfl, .inr ⟨⟨x, rfl⟩, rfl⟩⟩
/-- behind a call -/
theorem Rel.after {bp : Option Addr} {cs : Option PyData} (R : Rel K E F H st r) (L : Left K F H bp F' H' cs) (hb : ∀ p, bp = some p → ∃ i s, firstV ss = some i ∧ r[i]? = some (some s) ∧ Sl.mu s = true ∧ st[i]? = some (some (V.ref p)))
    (hn : bp = none → cs = none ∨ firstV ss = none) : Aft K E F H st r F' H' (putB r ss cs) := by
  -- the addresses that names hold
  have inM : ∀ p, bp = some p → MutA st r p := fun p q => by
    obtain ⟨i, s, _, a, b, c⟩ := hb p q
    exact ⟨i, s, a, b, c⟩
  have stp : Stp F H F' H' (MutA st r) := ⟨L.gf, fun a o e m => L.keep a o e fun z => m (inM a z), L.ever, fun a o e n _ => L.nofr a o e n⟩
  have keepE : ∀ a o, E.H0 a = some o → a ∉ E.bs → H' a = some o := fun a o e m => by
    refine L.keep a o (R.keep a o e m) fun z => ?_
    obtain ⟨i, s, _, a1, b1, c1⟩ := hb a z
    cases s with
    | d x => cases b1
    | l x =>
      obtain ⟨p, e1, e2, _⟩ := R.own i x a1
      rw [c1] at e1
      cases e1
      rw [e] at e2
      cases e2
    | b x =>
      obtain ⟨p, e1, _, e2, _⟩ := R.bor i x a1
      rw [c1] at e1
      cases e1
      exact m e2
  have everE : ∀ a o, E.H0 a = some o → ∃ u, H' a = some u := fun a o e => by
    obtain ⟨u, q⟩ := R.ever a o e
    exact L.ever a u q
  have nofrE : ∀ a o, E.H0 a = some o → E.F0 a = none → F' a = none := fun a o e n => by
    obtain ⟨u, q⟩ := R.ever a o e
    exact L.nofr a u q (R.nofr a o e n)
  have other : ∀ q x, ObAt K F H q x → bp ≠ some q → ObAt K F' H' q x := fun q x z ne => by
    obtain ⟨⟨u, hu⟩, f⟩ := z.some
    exact z.mono L.gf (L.nofr q u hu f) fun o e => L.keep q o e ne
  cases hbp : bp with
  | none =>
    have er : putB r ss cs = r := by
      rcases hn hbp with z | z
      · rw [z]; rfl
      · unfold putB
        cases cs with
        | none => rfl
        | some y => simp only [z]
    rw [er]
    refine ⟨⟨L.sub, R.grow.trans L.gf, keepE, everE, nofrE, R.len, fun i x q => ?_, fun i x q => ?_, fun i x q => ?_, R.sep⟩, stp, fun _ m => m⟩
    · obtain ⟨v, e1, e2⟩ := R.dat i x q
      exact ⟨v, e1, rpM L.gf e2⟩
    · obtain ⟨p, e1, e2, e3⟩ := R.own i x q
      exact ⟨p, e1, e2, other _ _ e3 (by rw [hbp]; simp)⟩
    · obtain ⟨p, e1, e2, e3, e4⟩ := R.bor i x q
      exact ⟨p, e1, e2, e3, other _ _ e4 (by rw [hbp]; simp)⟩
  | some p =>
    obtain ⟨i, s, ei, a1, b1, c1⟩ := hb p hbp
    obtain ⟨y, ey, ob⟩ := L.con p hbp
    obtain ⟨s', es, ms, kind⟩ := setC_at (y := y) a1 b1
    have er : putB r ss cs = r.set i (some s') := by
      rw [ey]
      unfold putB
      simp only [ei]
      exact es
    rw [er]
    have il : i < r.length := (List.getElem?_eq_some_iff.mp a1).1
    have at_ : ∀ j t, (r.set i (some s'))[j]? = some (some t) → (j = i ∧ t = s') ∨ (j ≠ i ∧ r[j]? = some (some t)) := fun j t q => by
      by_cases h : j = i
      · subst h
        rw [List.getElem?_set_self il] at q
        cases q
        exact .inl ⟨rfl, rfl⟩
      · rw [List.getElem?_set_ne (Ne.symm h)] at q
        exact .inr ⟨h, q⟩
    have apart : ∀ (j : Nat) (t : Sl) (q : Addr), j ≠ i → r[j]? = some (some t) → Sl.mu t = true → st[j]? = some (some (V.ref q)) → bp ≠ some q := fun j t q ne e m sj z => by
      rw [hbp] at z
      cases z
      exact ne (R.sep j i t s p e a1 m b1 sj c1)
    refine ⟨⟨L.sub, R.grow.trans L.gf, keepE, everE, nofrE, by rw [List.length_set]; exact R.len, fun j x q => ?_, fun j x q => ?_, fun j x q => ?_, fun j l t u a h1 h2 m1 m2 s1 s2 => ?_⟩, stp, fun a ⟨j, t, h1, h2, h3⟩ => ?_⟩
    · rcases at_ j _ q with ⟨_, z⟩ | ⟨ne, z⟩
      · rw [← z] at ms; cases ms
      · obtain ⟨v, e1, e2⟩ := R.dat j x z
        exact ⟨v, e1, rpM L.gf e2⟩
    · rcases at_ j _ q with ⟨ej, z⟩ | ⟨ne, z⟩
      · subst ej
        rcases kind with ⟨⟨x0, k0⟩, k1⟩ | ⟨_, k1⟩
        · rw [k1] at z
          cases z
          subst k0
          obtain ⟨p', e1, e2, _⟩ := R.own j x0 a1
          rw [c1] at e1
          cases e1
          exact ⟨p, c1, e2, ob⟩
        · rw [k1] at z; cases z
      · obtain ⟨p', e1, e2, e3⟩ := R.own j x z
        exact ⟨p', e1, e2, other _ _ e3 (apart j _ p' ne z rfl e1)⟩
    · rcases at_ j _ q with ⟨ej, z⟩ | ⟨ne, z⟩
      · subst ej
        rcases kind with ⟨_, k1⟩ | ⟨⟨x0, k0⟩, k1⟩
        · rw [k1] at z; cases z
        · rw [k1] at z
          cases z
          subst k0
          obtain ⟨p', e1, e2, e3, _⟩ := R.bor j x0 a1
          rw [c1] at e1
          cases e1
          exact ⟨p, c1, e2, e3, ob⟩
      · obtain ⟨p', e1, e2, e3, e4⟩ := R.bor j x z
        exact ⟨p', e1, e2, e3, other _ _ e4 (apart j _ p' ne z rfl e1)⟩
    · have back : ∀ k w, (r.set i (some s'))[k]? = some (some w) → Sl.mu w = true → ∃ w', r[k]? = some (some w') ∧ Sl.mu w' = true := fun k w e m => by
        rcases at_ k w e with ⟨z, _⟩ | ⟨_, z⟩
        · subst z; exact ⟨s, a1, b1⟩
        · exact ⟨w, z, m⟩
      obtain ⟨t', q1, q2⟩ := back j t h1 m1
      obtain ⟨u', q3, q4⟩ := back l u h2 m2
      exact R.sep j l t' u' a q1 q3 q2 q4 s1 s2
    · rcases at_ j t h1 with ⟨z, _⟩ | ⟨_, z⟩
      · subst z; exact ⟨j, s, a1, b1, h3⟩
      · exact ⟨j, t, z, h2, h3⟩
/-- a def is called; what it raises is wished for by PX -/
def dCall (S : DSpec) (PX : Exn → Prop) (ha : DTA) (r : DEnv) (P : Vl → DEnv → Prop) : Prop := ha r fun ss r1 => ∃ as, argsOf r1 ss = some as ∧ oneB as = true ∧ S as (fun s cs => P (resV s) (putB r1 ss cs)) PX
theorem de_callD {e : Expr} {n : Nat} {S : DSpec} {EX : XK} {PX : Exn → Prop} {ha : DTA} (h1 : PE X e (tCall (spD X.K X.mg n S) [] EX (tDA X.K E ha))) (hx : RaisesOk X.K X.mg E PX EX) (hl : ∀ as Q PX, S as Q PX → as.length = n) : DE E X e (dCall S PX ha) := by
  refine wkE h1 fun st H Q ⟨F, r, P, R, p, k⟩ => ⟨F, r, _, R, p, fun ss r1 vs F1 H1 q1 A1 ok1 o1 => ?_⟩
  obtain ⟨as, e, o, q⟩ := q1
  obtain ⟨A, hb⟩ := args_ok A1.rel ok1 e o
  refine ⟨by rw [List.append_nil, A.len]; exact hl _ _ _ q, F1, as, bpOf st ss, _, PX, A1.rel.sub, by rw [List.append_nil]; exact A, q, fun s cs v F' H' q2 L ok2 => ?_, fun x cls d F' H' px eb L ex => ?_⟩
  · have hn : bpOf st ss = none → cs = none ∨ firstV ss = none := fun z => by
      refine .inr ?_
      cases q3 : firstV ss with
      | none => rfl
      | some i =>
        exfalso
        obtain ⟨j, ej⟩ := firstV_mem q3
        obtain ⟨hl, g⟩ := args_get e
        have hj : j < as.length := by rw [← hl]; exact (List.getElem?_eq_some_iff.mp ej).1
        obtain ⟨s, e1, e2⟩ := g j as[j] (by simp [hj])
        rw [ej] at e1
        cases e1
        obtain ⟨s, a, b, _⟩ := argOf_v e2
        obtain ⟨p, w1, _⟩ := A1.rel.mu_at a b
        unfold bpOf at z
        simp only [q3, w1] at z
        cases z
    have B := A1.rel.after (ss := ss) L hb hn
    have C := A1.trans B
    cases s with
    | d x => exact k _ _ _ _ _ q2 C ok2 trivial
    | b x => exact ok2.elim
    | l x =>
      obtain ⟨p, e3, z, z0⟩ := ok2
      subst e3
      refine k (.n x) _ _ _ _ q2 C ⟨p, rfl, z, fun m => ?_⟩ (A1.newBack (v := V.ref p) (s := .n x) fun w e => by cases e; exact z0)
      obtain ⟨⟨u, hu⟩, _⟩ := A1.rel.mutIn (B.mu p m)
      rw [z0] at hu
      cases hu
  · have B := A1.rel.after (ss := []) (cs := none) L (fun p z => nomatch z) (fun _ => .inl rfl)
    exact hx F' st r1 H' x cls d B.rel px ex
end
end DL
set_option Elab.async false
set_option linter.all false
set_option autoImplicit false
set_option maxRecDepth 100000
set_option maxHeartbeats 4000000
/-! DLh: the data layer, part eight: built-in functions and methods over data. -/
namespace DL
open PySem PySem.Spec PyProof.Rows L2
section
variable {X : Cx} {E : Ent} {e a b c : Expr} {es : List Expr} {pos p apos cpos : Pos} {fa fb fc : DT} {ga : DTF} {ha : DTA} {K : PySem.W.Frag} {F H F' H' : Hp} {st : St} {r r' : DEnv}

/-! ### items -/
def atD (xs : List PyData) (i : Int) : Option PyData := (ixN xs.length i).bind fun j => xs[j]?
def strAt (z : Str) (i : Int) : Option PyData := ((ixN z.cps.toList.length i).bind fun j => z.cps.toList[j]?).map fun c => .str ⟨#[c]⟩
/-- x[i] -/
def bIx : PyData → PyData → PyData → Prop := fun x y z => ∃ i, y = .int i ∧ match x with
  | .list xs => atD xs i = some z
  | .tuple xs => atD xs i = some z
  | .str s => s.length ≤ sizeLine ∧ strAt s i = some z
  | _ => False
theorem atI_of {vs : List V} {xs : List PyData} {i : Int} {z : PyData} (h : Rps K F vs xs) (e : atD xs i = some z) : ∃ v, atI vs i = some v ∧ Rp K F v z := by
  unfold atD at e
  unfold atI
  rw [rps_len h]
  cases q : ixN xs.length i with
  | none => rw [q] at e; cases e
  | some j =>
    rw [q] at e
    exact rps_at h e
theorem opB_ix : OpB K (rIx K) bIx := by
  intro F H v w x y z Q g h1 h2 ⟨i, e, h⟩ hy
  subst e
  have hw := h2.int
  subst hw
  cases x with
  | list xs =>
    obtain ⟨p, vs, ev, hs, rs⟩ := h1.seq g
    subst ev
    obtain ⟨u, e1, e2⟩ := atI_of rs h
    exact .inl ⟨p, vs, i, u, rfl, rfl, hs, e1, hy.1 _ e2⟩
  | tuple xs =>
    obtain ⟨p, vs, ev, hs, rs⟩ := h1.tup g
    subst ev
    obtain ⟨u, e1, e2⟩ := atI_of rs h
    exact .inr (.inl ⟨p, vs, i, u, rfl, rfl, hs, e1, hy.1 _ e2⟩)
  | str s =>
    have ev := h1.str
    subst ev
    obtain ⟨hz, h⟩ := h
    unfold strAt at h
    cases q : (ixN s.cps.toList.length i).bind fun j => s.cps.toList[j]? with
    | none => rw [q] at h; cases h
    | some c =>
      rw [q] at h
      cases h
      exact .inr (.inr ⟨s, i, c, rfl, rfl, hz, q, hy.1 _ (.str _)⟩)
  | none => exact h.elim
  | bool _ => exact h.elim
  | int _ => exact h.elim
  | dict _ => exact h.elim
theorem de_ix (ha : DE E X a fa) (hb : DE E X b fb) (hs : PlainIx b := by exact fun _ _ => rfl) : DE E X (.Subscript a b pos) (dOp bIx fa fb) := wkE (pe_ix ix_seq ha hb hs) (op_bin opB_ix)

/-! ### len, tuple, list -/
def bLen : List PyData → PyData → Prop := fun as z => ∃ x, as = [x] ∧ match x with
  | .list xs => z = .int (xs.length : Nat)
  | .tuple xs => z = .int (xs.length : Nat)
  | .str s => s.length ≤ sizeLine ∧ z = .int (s.length : Nat)
  | _ => False
theorem callR_or {f : Value} {r1 r2 : List V → Hp → VK → Prop} (h1 : CallR X f r1) (h2 : CallR X f r2) : CallR X f (fun xs H Q => r1 xs H Q ∨ r2 xs H Q) := by
  intro pins s σ H xs us Q I rx h
  rcases h with h | h
  · exact h1 pins s σ H xs us Q I rx h
  · exact h2 pins s σ H xs us Q I rx h
theorem de_len (hg : Gl X "len") (hm : X.mg "len" = none) (h : DA E X [e] ha) (he : starEach [e] X.env = (false, eval e X.env) :: starEach [] X.env := by rfl) (hpl : (backTo pos (starEach [] X.env)).any (·.1) = false := by rfl) :
    DE E X (.Call (.Name "len" p) [e] [] pos) (dB bLen ha) := by
  refine de_call (pe_callB (callR_or call_len_seq call_len_str) hg hm PySem.boot_len h (by decide) (by decide) he hpl) ?_
  intro F H vs xs z Q g rv ⟨x, e, h⟩ hy
  subst e
  cases rv with
  | cons rx t =>
    cases t
    cases x with
    | list xs =>
      obtain ⟨p, ws, ev, hs, rs⟩ := rx.seq g
      subst ev
      subst h
      rw [← rps_len rs] at hy
      exact .inl ⟨p, ws, rfl, .inl hs, hy.1 _ (.int _)⟩
    | tuple xs =>
      obtain ⟨p, ws, ev, hs, rs⟩ := rx.tup g
      subst ev
      subst h
      rw [← rps_len rs] at hy
      exact .inl ⟨p, ws, rfl, .inr hs, hy.1 _ (.int _)⟩
    | str s =>
      have ev := rx.str
      subst ev
      obtain ⟨hz, h⟩ := h
      subst h
      exact .inr ⟨s, rfl, hz, hy.1 _ (.int _)⟩
    | none => exact h.elim
    | bool _ => exact h.elim
    | int _ => exact h.elim
    | dict _ => exact h.elim
def bTuple : List PyData → PyData → Prop := fun as z => ∃ xs, (as = [.list xs] ∨ as = [.tuple xs]) ∧ z = .tuple xs
theorem de_tuple (hg : Gl X "tuple") (hm : X.mg "tuple" = none) (h : DA E X [e] ha) (he : starEach [e] X.env = (false, eval e X.env) :: starEach [] X.env := by rfl) (hpl : (backTo pos (starEach [] X.env)).any (·.1) = false := by rfl) :
    DE E X (.Call (.Name "tuple" p) [e] [] pos) (dB bTuple ha) := by
  refine de_call (pe_callTy call_tuple_of hg hm (by decide +kernel) h (by decide) (by decide) he hpl) ?_
  intro F H vs xs z Q g rv ⟨ys, e, ez⟩ hy
  subst ez
  rcases e with e | e
  · subst e
    cases rv with
    | cons rx t =>
      cases t
      obtain ⟨p, ws, ev, hs, rs⟩ := rx.seq g
      subst ev
      exact ⟨p, ws, rfl, .inl ⟨hs, fun l hl => hy.2 l _ _ hl (.tup (SqT.of upd_same) (rpsM (same_upd (g.free hl)) rs))⟩⟩
  · subst e
    cases rv with
    | cons rx t =>
      cases t
      rcases rx with rx | ⟨q, _, z⟩
      · cases rx with
        | tup a b => exact ⟨_, _, rfl, .inr ⟨g.tup a, hy.1 _ (.tup a b)⟩⟩
      · exact z.elim
def bListOf : List PyData → List PyData → Prop := fun as zs => as = [.list zs] ∨ as = [.tuple zs]
theorem de_list (hg : Gl X "list") (hm : X.mg "list" = none) (h : DA E X [e] ha) (he : starEach [e] X.env = (false, eval e X.env) :: starEach [] X.env := by rfl) (hpl : (backTo pos (starEach [] X.env)).any (·.1) = false := by rfl) :
    DE E X (.Call (.Name "list" p) [e] [] pos) (dBL bListOf ha) := by
  refine de_callL (pe_callTy call_list_of hg hm (by decide +kernel) h (by decide) (by decide) he hpl) ?_
  intro F H vs xs zs Q g rv e hy
  rcases e with e | e
  · subst e
    cases rv with
    | cons rx t =>
      cases t
      obtain ⟨p, ws, ev, hs, rs⟩ := rx.seq g
      subst ev
      exact ⟨p, ws, rfl, .inl hs, fun l hl => hy l ws hl rs⟩
  · subst e
    cases rv with
    | cons rx t =>
      cases t
      obtain ⟨p, ws, ev, hs, rs⟩ := rx.tup g
      subst ev
      exact ⟨p, ws, rfl, .inr hs, fun l hl => hy l ws hl rs⟩

/-! ### all, any, sum, max, min, divmod -/
theorem rps_bools : ∀ {bs : List Bool} {vs : List V}, Rps K F vs (bs.map PyData.bool) → vs = bs.map V.bl
  | [], _, .nil => rfl
  | b :: bs, _, .cons h t => by cases h; rw [rps_bools t]; rfl
theorem rps_nums : ∀ {bs : List Int} {vs : List V}, Rps K F vs (bs.map PyData.int) → vs = bs.map V.int
  | [], _, .nil => rfl
  | b :: bs, _, .cons h t => by cases h; rw [rps_nums t]; rfl
def bAll : List PyData → PyData → Prop := fun as z => ∃ bs : List Bool, as = [.list (bs.map .bool)] ∧ z = .bool (bs.all id)
def bAny : List PyData → PyData → Prop := fun as z => ∃ bs : List Bool, as = [.list (bs.map .bool)] ∧ z = .bool (bs.any id)
theorem de_all (hc : X.calm = true) (hg : Gl X "all") (hm : X.mg "all" = none) (h : DA E X [e] ha) (he : starEach [e] X.env = (false, eval e X.env) :: starEach [] X.env := by rfl) (hpl : (backTo pos (starEach [] X.env)).any (·.1) = false := by rfl) :
    DE E X (.Call (.Name "all" p) [e] [] pos) (dB bAll ha) := by
  refine de_call (pe_callB (cr_all hc) hg hm (by decide +kernel) h (by decide) (by decide) he hpl) ?_
  intro F H vs xs z Q g rv ⟨bs, e, ez⟩ hy
  subst e ez
  cases rv with
  | cons rx t =>
    cases t
    obtain ⟨p, ws, ev, hs, rs⟩ := rx.seq g
    subst ev
    rw [rps_bools rs] at hs
    exact ⟨p, bs, rfl, hs, hy.1 _ (.bl _)⟩
theorem de_any (hc : X.calm = true) (hg : Gl X "any") (hm : X.mg "any" = none) (h : DA E X [e] ha) (he : starEach [e] X.env = (false, eval e X.env) :: starEach [] X.env := by rfl) (hpl : (backTo pos (starEach [] X.env)).any (·.1) = false := by rfl) :
    DE E X (.Call (.Name "any" p) [e] [] pos) (dB bAny ha) := by
  refine de_call (pe_callB (cr_any hc) hg hm (by decide +kernel) h (by decide) (by decide) he hpl) ?_
  intro F H vs xs z Q g rv ⟨bs, e, ez⟩ hy
  subst e ez
  cases rv with
  | cons rx t =>
    cases t
    obtain ⟨p, ws, ev, hs, rs⟩ := rx.seq g
    subst ev
    rw [rps_bools rs] at hs
    exact ⟨p, bs, rfl, hs, hy.1 _ (.bl _)⟩
/-- sum of a tuple of ints -/
theorem cr_sumT (hc : X.calm = true) : CallR X (.builtin "sum") (fun vs H Q => ∃ (a : Addr) (ns : List Int), vs = [V.ref a] ∧ SqT X.K H a (ns.map V.int) ∧ Q (.int ns.sum) H) := by
  intro pins s σ H vs us Q I rv h
  obtain ⟨a, ns, rfl, hs, q⟩ := h
  obtain ⟨its, ri, ht, _⟩ := I.tuple hs
  have hi : IntsAre its ns := ri.ints
  obtain ⟨xs, ex⟩ := hi.allInts.items
  have hn : numsOf (intItems xs).toList = ns := by rw [← ex]; exact hi.numsOf
  rw [nums_intItems] at hn
  cases rv with
  | cons r0 t =>
    cases t
    cases r0
    have hh := I.ok.hd hc
    have hlt : a < s.heap.objs.size := by
      obtain ⟨_, e, _⟩ := ht
      exact Heap.lt_size e
    have ht : s.heap.IsTuple a (intItems xs) := by rw [← ex]; exact ht
    refine call_sum_walkG (wpAny_pyIter_tuple ht ?_)
    refine ⟨_, _, _, _, _, _, numAt xs, rfl, Walks.tuple (A := X.A.in1) hh _ a (Nat.ne_of_lt hlt) (intItems xs), ⟨⟨_, Heap.get?_push_size _ rfl, rfl, rfl⟩, ht.push _⟩, ?_, fun _ _ => intItems_at, ?_⟩
    · intro b hb
      show b < (s.heap.push _).objs.size
      rw [Heap.size_push]
      rcases List.mem_cons.mp hb with rfl | hb
      · exact Nat.lt_succ_self _
      · cases List.mem_singleton.mp hb
        exact Nat.lt_succ_of_lt hlt
    · intro h' tk t' hk
      have keep : ∀ b o, s.heap.get? b = some o → h'.get? b = some o := fun b o e => hk b o (by
        intro m
        cases List.mem_singleton.mp m
        exact Nat.lt_irrefl _ (Heap.lt_size e)) (Heap.get?_push_of_some _ e)
      have e1 : preSum (numAt xs) (intItems xs).size = ns.sum := by
        rw [show (intItems xs).size = xs.size by simp [intItems], preSum_eq, List.take_of_length_le (by simp), hn]
      rw [e1]
      exact ⟨.int _, H, I.kept (t' := tk) keep, ⟨_, rfl⟩, q⟩
def bSum : List PyData → PyData → Prop := fun as z => ∃ ns : List Int, (as = [.list (ns.map .int)] ∨ as = [.tuple (ns.map .int)]) ∧ z = .int ns.sum
theorem de_sum (hc : X.calm = true) (hg : Gl X "sum") (hm : X.mg "sum" = none) (h : DA E X [e] ha) (he : starEach [e] X.env = (false, eval e X.env) :: starEach [] X.env := by rfl) (hpl : (backTo pos (starEach [] X.env)).any (·.1) = false := by rfl) :
    DE E X (.Call (.Name "sum" p) [e] [] pos) (dB bSum ha) := by
  refine de_call (pe_callB (callR_or (cr_sum hc) (cr_sumT hc)) hg hm (by decide +kernel) h (by decide) (by decide) he hpl) ?_
  intro F H vs xs z Q g rv ⟨ns, e, ez⟩ hy
  subst ez
  rcases e with e | e
  · subst e
    cases rv with
    | cons rx t =>
      cases t
      obtain ⟨p, ws, ev, hs, rs⟩ := rx.seq g
      subst ev
      rw [rps_nums rs] at hs
      exact .inl ⟨p, ns, rfl, hs, hy.1 _ (.int _)⟩
  · subst e
    cases rv with
    | cons rx t =>
      cases t
      obtain ⟨p, ws, ev, hs, rs⟩ := rx.tup g
      subst ev
      rw [rps_nums rs] at hs
      exact .inr ⟨p, ns, rfl, hs, hy.1 _ (.int _)⟩
def bMax2 : List PyData → PyData → Prop := fun as z => ∃ i j : Int, as = [.int i, .int j] ∧ z = .int (if j > i then j else i)
def bMin2 : List PyData → PyData → Prop := fun as z => ∃ i j : Int, as = [.int i, .int j] ∧ z = .int (if j < i then j else i)
theorem rdv2 {vs : List V} {i j : Int} (h : Paired (Rdv K F H) vs [.int i, .int j]) : vs = [.int i, .int j] := by
  cases h with
  | cons h1 t =>
    cases t with
    | cons h2 t =>
      cases t
      rw [h1.int, h2.int]
theorem de_max2 (hc : X.calm = true) (hg : Gl X "max") (hm : X.mg "max" = none) (h : DA E X [a, b] ha) (he : starEach [a, b] X.env = (false, eval a X.env) :: starEach [b] X.env := by rfl) (hpl : (backTo pos (starEach [b] X.env)).any (·.1) = false := by rfl) :
    DE E X (.Call (.Name "max" p) [a, b] [] pos) (dB bMax2 ha) := by
  refine de_call (pe_callB (call_max2 hc) hg hm (by decide +kernel) h (by decide) (by decide) he hpl) ?_
  intro F H vs xs z Q g rv ⟨i, j, e, ez⟩ hy
  subst e ez
  exact ⟨i, j, rdv2 rv, hy.1 _ (.int _)⟩
theorem de_min2 (hc : X.calm = true) (hg : Gl X "min") (hm : X.mg "min" = none) (h : DA E X [a, b] ha) (he : starEach [a, b] X.env = (false, eval a X.env) :: starEach [b] X.env := by rfl) (hpl : (backTo pos (starEach [b] X.env)).any (·.1) = false := by rfl) :
    DE E X (.Call (.Name "min" p) [a, b] [] pos) (dB bMin2 ha) := by
  refine de_call (pe_callB (call_min2 hc) hg hm (by decide +kernel) h (by decide) (by decide) he hpl) ?_
  intro F H vs xs z Q g rv ⟨i, j, e, ez⟩ hy
  subst e ez
  exact ⟨i, j, rdv2 rv, hy.1 _ (.int _)⟩
def bDivmod : List PyData → PyData → Prop := fun as z => ∃ i j : Int, as = [.int i, .int j] ∧ CDiv i j ∧ z = .tuple [.int (i / j), .int (i % j)]
theorem de_divmod (hg : Gl X "divmod") (hm : X.mg "divmod" = none) (h : DA E X [a, b] ha) (he : starEach [a, b] X.env = (false, eval a X.env) :: starEach [b] X.env := by rfl) (hpl : (backTo pos (starEach [b] X.env)).any (·.1) = false := by rfl) :
    DE E X (.Call (.Name "divmod" p) [a, b] [] pos) (dB bDivmod ha) := by
  refine de_call (pe_callB call_divmod hg hm (by decide +kernel) h (by decide) (by decide) he hpl) ?_
  intro F H vs xs z Q g rv ⟨i, j, e, hd, ez⟩ hy
  subst e ez
  exact ⟨i, j, rdv2 rv, hd, fun q hq => hy.2 q _ _ hq (.tup (SqT.of upd_same) (.cons (.int _) (.cons (.int _) .nil)))⟩

/-! ### isinstance against a built-in class -/
def tyOf : PyData → String
  | .none => "NoneType"
  | .bool _ => "bool"
  | .int _ => "int"
  | .str _ => "str"
  | .list _ => "list"
  | .tuple _ => "tuple"
  | .dict _ => "dict"
/-- a locked dict whose keys are tuples -/
def LkT (H : Hp) (v : V) (x : PyData) : Prop := ∃ a o kvs, v = .ref a ∧ H a = some (.frz o (.dT kvs)) ∧ tyOf x = "dict"
theorem tyx_of {v : V} {x : PyData} (g : Sub F H) (h : Rdv K F H v x) : TyX K H v (.type (tyOf x)) ∨ LkT H v x := by
  rcases h with h | ⟨p, rfl, z⟩
  · cases h with
    | non => exact .inl (.base .non)
    | bl b => exact .inl (.base (.bl b))
    | int i => exact .inl (.base (.int i))
    | str x => exact .inl (.base (.str x))
    | lst a b =>
      rcases g.seq a with (q | ⟨o, q⟩) | ⟨o, its, n, q, c, _⟩
      · exact .inl (.base (.lst q))
      · exact .inl (.base (.frz q))
      · exact .inl (.kList q c)
    | tup a b =>
      rcases g.tup a with (q | ⟨o, q⟩) | ⟨o, its, n, q, c, _⟩
      · exact .inl (.base (.tup q))
      · exact .inl (.fTuple q)
      · exact .inl (.kTuple q c)
    | dik a b =>
      rcases g _ _ a with q | ⟨_, w, q⟩
      · exact .inl (.base (.dK q))
      · exact .inl (.fDict q)
    | dit a b =>
      rcases g _ _ a with q | ⟨_, w, q⟩
      · exact .inl (.base (.dT q))
      · exact .inr ⟨_, w, _, rfl, q, rfl⟩
  · cases x with
    | list xs => obtain ⟨vs, a, b, c⟩ := z; exact .inl (.base (.lst b))
    | dict ds =>
      obtain ⟨a, ⟨kvs, b, c⟩ | ⟨kvs, b, c⟩⟩ := z
      · exact .inl (.base (.dK b))
      · exact .inl (.base (.dT b))
    | none => exact z.elim
    | bool _ => exact z.elim
    | int _ => exact z.elim
    | str _ => exact z.elim
    | tuple _ => exact z.elim
theorem call_isiLk : CallR X (.builtin "isinstance") (fun xs H Q => ∃ (x : V) (T : String) (d : PyData) (b : Bool), xs = [x, .ty T] ∧ LkT H x d ∧ kitB "dict" T = some b ∧ Q (.bl b) H) := by
  intro pins s σ H xs us Q I rv h
  obtain ⟨x, T, d, b, rfl, ⟨a, o, kvs, rfl, hH, _⟩, e, q⟩ := h
  obtain ⟨_, _, _, xs, _, oo, es, ep, h1, h2, _⟩ := (show ObjOk X.prog X.w H s.heap a (.frz o (.dT kvs)) from I.hok a _ hH)
  cases rv with
  | cons r1 t =>
    cases t with
    | cons r2 t =>
      cases t
      cases r1
      cases r2
      have k := kit_ty (K := X.K) e
      exact PySem.W.kia_one PySem.W.kitx_dict I.kIn ⟨oo, h1, h2.1⟩ k (fun z => nomatch z) fun tk => ⟨.bl b, H, I.tok tk, rfl, q⟩
def dIsi (f : PyData → Bool) (fa : DT) (r : DEnv) (P : Vl → DEnv → Prop) : Prop := fa r fun s r1 => ∃ x, rd r1 s = some x ∧ P (.d (.bool (f x))) r1
theorem de_isi {T : String} {f : PyData → Bool} {x : Str} {p2 : Pos} (hT : ∀ d, kitB (tyOf d) T = some (f d)) (hg : Gl X "isinstance") (hm : X.mg "isinstance" = none) (h : DE E X e fa) (hx : PE X (.Name x p2) (tC (.ty T)))
    (he : starEach [e, .Name x p2] X.env = (false, eval e X.env) :: starEach [.Name x p2] X.env := by rfl) (he2 : starEach [.Name x p2] X.env = (false, eval (.Name x p2) X.env) :: starEach [] X.env := by rfl) (hpl : (backTo pos (starEach [.Name x p2] X.env)).any (·.1) = false := by rfl) :
    DE E X (.Call (.Name "isinstance" p) [e, .Name x p2] [] pos) (dIsi f fa) := by
  refine wkE (pe_callB (callR_or call_isi call_isiLk) hg hm (by decide +kernel) (pa_cons h (pa_cons hx pa_nil he2) he) (by decide) (by decide) he hpl) fun st H Q ⟨F, r, P, R, p, k⟩ => ?_
  refine ⟨F, r, _, R, p, fun s r1 v F1 H1 q1 A1 ok n => ?_⟩
  obtain ⟨d, e, q⟩ := q1
  rcases tyx_of A1.rel.sub (A1.rel.read ok e) with t | t
  · exact .inl ⟨v, .ty T, _, _, f d, rfl, .ty T, t, kit_ty (hT d), k _ _ _ _ _ q A1 (.bl _) trivial⟩
  · exact .inr ⟨v, T, d, f d, rfl, t, by
      obtain ⟨_, _, _, _, _, z⟩ := t
      rw [← z]
      exact hT d, k _ _ _ _ _ q A1 (.bl _) trivial⟩
def isIntD : PyData → Bool
  | .int _ => true
  | .bool _ => true
  | _ => false
def isBoolD : PyData → Bool
  | .bool _ => true
  | _ => false
def isTupD : PyData → Bool
  | .tuple _ => true
  | _ => false
def isStrD : PyData → Bool
  | .str _ => true
  | _ => false
def isListD : PyData → Bool
  | .list _ => true
  | _ => false
def isDictD : PyData → Bool
  | .dict _ => true
  | _ => false
theorem kit_int : ∀ d : PyData, kitB (tyOf d) "int" = some (isIntD d)
  | .none => (show kitB "NoneType" "int" = some false by decide +kernel)
  | .bool _ => (show kitB "bool" "int" = some true by decide +kernel)
  | .int _ => (show kitB "int" "int" = some true by decide +kernel)
  | .str _ => (show kitB "str" "int" = some false by decide +kernel)
  | .list _ => (show kitB "list" "int" = some false by decide +kernel)
  | .tuple _ => (show kitB "tuple" "int" = some false by decide +kernel)
  | .dict _ => (show kitB "dict" "int" = some false by decide +kernel)
theorem kit_bool : ∀ d : PyData, kitB (tyOf d) "bool" = some (isBoolD d)
  | .none => (show kitB "NoneType" "bool" = some false by decide +kernel)
  | .bool _ => (show kitB "bool" "bool" = some true by decide +kernel)
  | .int _ => (show kitB "int" "bool" = some false by decide +kernel)
  | .str _ => (show kitB "str" "bool" = some false by decide +kernel)
  | .list _ => (show kitB "list" "bool" = some false by decide +kernel)
  | .tuple _ => (show kitB "tuple" "bool" = some false by decide +kernel)
  | .dict _ => (show kitB "dict" "bool" = some false by decide +kernel)
theorem kit_tup : ∀ d : PyData, kitB (tyOf d) "tuple" = some (isTupD d)
  | .none => (show kitB "NoneType" "tuple" = some false by decide +kernel)
  | .bool _ => (show kitB "bool" "tuple" = some false by decide +kernel)
  | .int _ => (show kitB "int" "tuple" = some false by decide +kernel)
  | .str _ => (show kitB "str" "tuple" = some false by decide +kernel)
  | .list _ => (show kitB "list" "tuple" = some false by decide +kernel)
  | .tuple _ => (show kitB "tuple" "tuple" = some true by decide +kernel)
  | .dict _ => (show kitB "dict" "tuple" = some false by decide +kernel)
theorem kit_str : ∀ d : PyData, kitB (tyOf d) "str" = some (isStrD d)
  | .none => (show kitB "NoneType" "str" = some false by decide +kernel)
  | .bool _ => (show kitB "bool" "str" = some false by decide +kernel)
  | .int _ => (show kitB "int" "str" = some false by decide +kernel)
  | .str _ => (show kitB "str" "str" = some true by decide +kernel)
  | .list _ => (show kitB "list" "str" = some false by decide +kernel)
  | .tuple _ => (show kitB "tuple" "str" = some false by decide +kernel)
  | .dict _ => (show kitB "dict" "str" = some false by decide +kernel)
theorem kit_list : ∀ d : PyData, kitB (tyOf d) "list" = some (isListD d)
  | .none => (show kitB "NoneType" "list" = some false by decide +kernel)
  | .bool _ => (show kitB "bool" "list" = some false by decide +kernel)
  | .int _ => (show kitB "int" "list" = some false by decide +kernel)
  | .str _ => (show kitB "str" "list" = some false by decide +kernel)
  | .list _ => (show kitB "list" "list" = some true by decide +kernel)
  | .tuple _ => (show kitB "tuple" "list" = some false by decide +kernel)
  | .dict _ => (show kitB "dict" "list" = some false by decide +kernel)
theorem kit_dict : ∀ d : PyData, kitB (tyOf d) "dict" = some (isDictD d)
  | .none => (show kitB "NoneType" "dict" = some false by decide +kernel)
  | .bool _ => (show kitB "bool" "dict" = some false by decide +kernel)
  | .int _ => (show kitB "int" "dict" = some false by decide +kernel)
  | .str _ => (show kitB "str" "dict" = some false by decide +kernel)
  | .list _ => (show kitB "list" "dict" = some false by decide +kernel)
  | .tuple _ => (show kitB "tuple" "dict" = some false by decide +kernel)
  | .dict _ => (show kitB "dict" "dict" = some true by decide +kernel)
/-- a built-in class by its name -/
theorem pe_bty {x : Str} {T : String} {p : Pos} (hg : Gl X x) (hm : X.mg x = none) (hv : bootBuiltins x = some (.type T)) (hn : x ≠ "__name__" := by decide) (hd : (x == ("__debug__" : Str)) = false := by decide) : PE X (.Name x p) (tC (.ty T)) :=
  pe_bltn hg hm hv rfl hn hd
end
end DL
set_option Elab.async false
set_option linter.all false
set_option autoImplicit false
set_option maxRecDepth 100000
set_option maxHeartbeats 4000000
/-! DLi: the data layer, part nine: repr, objects changed, sums of sequences, enumerate. -/
namespace DL
open PySem PySem.Spec PyProof.Rows L2

/-! ### repr -/
mutual
theorem noDic_has : ∀ d : PyData, noDic d = true → d.hasDict = false
  | .none, _ => rfl
  | .bool _, _ => rfl
  | .int _, _ => rfl
  | .str _, _ => rfl
  | .list xs, h => by
    unfold noDic at h
    unfold PyData.hasDict
    exact noDics_has xs h
  | .tuple xs, h => by
    unfold noDic at h
    unfold PyData.hasDict
    exact noDics_has xs h
  | .dict _, h => by unfold noDic at h; cases h
theorem noDics_has : ∀ xs : List PyData, noDics xs = true → PyData.hasDictAll xs = false
  | [], _ => rfl
  | x :: xs, h => by
    unfold noDics at h
    rw [Bool.and_eq_true] at h
    unfold PyData.hasDictAll
    rw [noDic_has x h.1, noDics_has xs h.2]
    rfl
end
/-- what repr asks of data -/
structure OkR (x : PyData) : Prop where
  nd : noDic x = true
  sh : x.showable = true
  dp : x.depth ≤ 64
  sz : x.shown.length ≤ sizeLine
section
variable {X : Cx} {E : Ent} {e a b c : Expr} {es : List Expr} {pos p apos cpos : Pos} {fa fb fc : DT} {ga : DTF} {ha : DTA} {K : PySem.W.Frag} {F H F' H' : Hp} {st : St} {r r' : DEnv}
theorem call_reprD (hg : X.A.guards = some []) (hu : X.A.units + 66 < cLine) : CallR X (.builtin "repr") (fun vs H Q => ∃ v d, vs = [v] ∧ Dp X.K H v d ∧ OkR d ∧ Q (.str d.shown) H) := by
  intro pins s σ H vs us Q I rv h
  obtain ⟨v, d, rfl, hd, ok, q⟩ := h
  cases rv with
  | cons r t =>
    cases t
    rename_i u
    obtain ⟨as, rr⟩ := Dp.reads I d v u hd r
    have fin : ∀ h' tk, (∀ b o, s.heap.get? b = some o → h'.get? b = some o) → ∀ t', EP X pins σ Q (.str d.shown t') { s with heap := h', toks := tk } := fun h' tk k t' => ⟨.str _, H, I.kept (t' := tk) k, ⟨_, rfl⟩, q⟩
    cases hd with
    | non =>
      cases r
      exact P.repr_of_none (fin s.heap _ (fun _ _ e => e) _)
    | bl b =>
      cases r
      exact P.repr_of_bool (fin s.heap _ (fun _ _ e => e) _)
    | int i =>
      obtain ⟨t, rfl⟩ := r
      have := ok.sh
      unfold PyData.showable at this
      exact P.repr_of_int (of_decide_eq_true this) (fin s.heap _ (fun _ _ e => e) _)
    | str x =>
      obtain ⟨t, rfl⟩ := r
      exact P.repr_of_str (fin s.heap _ (fun _ _ e => e) _) ok.sz
    | lst a b =>
      cases r
      have hdp := ok.dp
      exact repr_of_reads' (h₀ := s.heap) rr ok.sh (PyData.noDict_hsm (noDic_has _ ok.nd)) hg (by omega) (fun _ _ e => e) (fun h' u tk k => fin h' tk k u) ok.sz
    | tup a b =>
      cases r
      have hdp := ok.dp
      exact repr_of_reads' (h₀ := s.heap) rr ok.sh (PyData.noDict_hsm (noDic_has _ ok.nd)) hg (by omega) (fun _ _ e => e) (fun h' u tk k => fin h' tk k u) ok.sz
def bRepr : List PyData → PyData → Prop := fun as z => ∃ x, as = [x] ∧ OkR x ∧ z = .str x.shown
theorem de_repr (hgu : X.A.guards = some []) (hu : X.A.units + 66 < cLine) (hg : Gl X "repr") (hm : X.mg "repr" = none) (h : DA E X [e] ha) (he : starEach [e] X.env = (false, eval e X.env) :: starEach [] X.env := by rfl) (hpl : (backTo pos (starEach [] X.env)).any (·.1) = false := by rfl) :
    DE E X (.Call (.Name "repr" p) [e] [] pos) (dB bRepr ha) := by
  refine de_call (pe_callB (call_reprD hgu hu) hg hm (by decide +kernel) h (by decide) (by decide) he hpl) ?_
  intro F H vs xs z Q g rv ⟨x, e, ok, ez⟩ hy
  subst e ez
  cases rv with
  | cons rx t =>
    cases t
    exact ⟨_, x, rfl, rx.dp g ok.nd, ok, hy.1 _ (.str _)⟩

/-! ### objects that are changed -/
theorem Rel.wrt {i : Nat} {s : Sl} {q : Addr} {o : HO} {y : PyData} (R : Rel K E F H st r) (e : r[i]? = some (some s)) (m : Sl.mu s = true) (hq : st[i]? = some (some (V.ref q))) (ob : ObAt K F (upd H q o) q y) : Aft K E F H st r F (upd H q o) (setC r i y) := by
  obtain ⟨p', e1, z⟩ := R.mu_at e m
  rw [hq] at e1
  cases e1
  obtain ⟨⟨u, hu⟩, hf⟩ := z.some
  have L : Left K F H (some q) F (upd H q o) (some y) := by
    refine ⟨Same.refl _, fun a w ea => ?_, fun a w ea n => ?_, fun a w ea => ?_, fun a w _ n => n, fun w ew => ?_⟩
    · have : a ≠ q := fun z => by rw [z, hf] at ea; cases ea
      rw [upd_ne this]
      exact R.sub a w ea
    · rw [upd_ne fun z => n (by rw [z])]
      exact ea
    · by_cases h : a = q
      · rw [h]
        exact ⟨o, upd_same⟩
      · rw [upd_ne h]
        exact ⟨w, ea⟩
    · cases ew
      exact ⟨y, rfl, ob⟩
  have := R.after (ss := [.v i]) L (fun w ew => by
    cases ew
    exact ⟨i, s, rfl, e, m, hq⟩) (fun z => nomatch z)
  exact this
/-- x.append(e), x the name in slot i -/
def sApp (i : Nat) (ga : DTF) (P : DEnds) (r : DEnv) : Prop := (∃ xs, slotD r i = some (.list xs)) ∧ ga r fun ys r1 => ∃ y xs t, ys = [y] ∧ r1[i]? = some (some t) ∧ Sl.mu t = true ∧ t.it = .list xs ∧ xs.length < sizeLine ∧ P.nx (setC r1 i (.list (xs ++ [y])))
theorem slot_read {i : Nat} {x : PyData} (R : Rel K E F H st r) (e : slotD r i = some x) : ∃ v, st[i]? = some (some v) ∧ Rdv K F H v x := by
  unfold slotD at e
  split at e
  · rename_i s q
    obtain ⟨v, e1, ok⟩ := R.var q
    refine ⟨v, e1, ?_⟩
    cases s with
    | d y => cases e; exact .inl ok
    | l y =>
      obtain ⟨p, e2, _, z⟩ := R.own i y q
      rw [e1] at e2
      cases e2
      cases e
      exact .inr ⟨p, rfl, z⟩
    | b y =>
      obtain ⟨p, e2, _, _, z⟩ := R.bor i y q
      rw [e1] at e2
      cases e2
      cases e
      exact .inr ⟨p, rfl, z⟩
  · cases e
theorem ob_list {q : Addr} {xs : List PyData} (z : ObAt K F H q (.list xs)) : ∃ vs, F q = none ∧ H q = some (.lst vs) ∧ Rps K F vs xs := z
theorem ds_app {i : Nat} (h : PS X (.Expr e pos) (tDrop (tBM X.K "list" rAppend (tVar i) (tDF X.K E ga)))) : DS E X (.Expr e pos) (sApp i ga) := by
  refine wkS h fun D st H ⟨F, r, P, R, p, k⟩ => ?_
  obtain ⟨⟨xs0, e0⟩, p⟩ := p
  obtain ⟨v, ev, rv⟩ := slot_read R e0
  obtain ⟨q, vs, ev2, hq, _⟩ := rv.seq R.sub
  subst ev2
  refine ⟨_, ev, .inl ⟨rfl, _, hq⟩, F, r, _, R, p, ?_⟩
  · rintro ys r1 ws F1 H1 ⟨y, xs, t, ey, e1, m1, it, hl, q1⟩ A1 ok
    subst ey
    cases ok with
    | cons ok nn =>
      cases nn
      obtain ⟨q', e2, z⟩ := A1.rel.mu_at e1 m1
      rw [ev] at e2
      cases e2
      rw [it] at z
      obtain ⟨us, f1, h1, rs⟩ := ob_list z
      refine ⟨q, us, _, rfl, rfl, h1, by rw [rps_len rs]; exact hl, ?_⟩
      have B := A1.rel.wrt (o := .lst (us ++ [_])) e1 m1 ev (y := .list (xs ++ [y])) ⟨_, f1, upd_same, rps_app rs (.cons ok .nil)⟩
      exact k.nx _ _ _ _ q1 B.rel (A1.stp.gf.trans B.stp.gf)
/-- x[k] = e, x the name in slot i, a list -/
def sPut (i : Nat) (fe fk : DT) (P : DEnds) (r : DEnv) : Prop := dFz fe r fun s r1 => ∃ y, s = .d y ∧ fk r1 fun u r2 => ∃ k j xs t, u = .d (.int k) ∧ r2[i]? = some (some t) ∧ Sl.mu t = true ∧ t.it = .list xs ∧ ixN xs.length k = some j ∧ P.nx (setC r2 i (.list (xs.set j y)))
/-- .. where a list stands there -/
def sPutS (i : Nat) (fa fk : DT) (P : DEnds) (r : DEnv) : Prop := (∃ xs, slotD r i = some (.list xs)) ∧ sPut i fa fk P r
theorem ds_put {i : Nat} {tg : Expr} {fk : DT} (h : PS X (.Assign [tg] e pos) (tAsg (tD X.K E (dFz fa)) (gSub (tVar i) (tD X.K E fk) rSetL))) :
    DS E X (.Assign [tg] e pos) (sPutS i fa fk) := by
  refine wkS h fun D st H ⟨F, r, P, R, p, k⟩ => ?_
  obtain ⟨⟨xs0, e0⟩, p⟩ := p
  obtain ⟨v, ev, rv⟩ := slot_read R e0
  obtain ⟨q, vs, ev2, hq, _⟩ := rv.seq R.sub
  subst ev2
  refine ⟨F, r, _, R, p, ?_⟩
  rintro s r1 w F1 H1 ⟨y, es, q1⟩ A1 ok n
  subst es
  refine ⟨_, ev, F1, r1, _, A1.rel, q1, ?_⟩
  rintro u r2 w2 F2 H2 ⟨kk, j, xs, t, eu, e1, m1, it, hj, q2⟩ A2 ok2 n2
  subst eu
  cases ok2
  obtain ⟨q', e2, z⟩ := A2.rel.mu_at e1 m1
  rw [ev] at e2
  cases e2
  rw [it] at z
  obtain ⟨us, f1, h1, rs⟩ := ob_list z
  refine ⟨q, us, kk, j, rfl, rfl, h1, by rw [rps_len rs]; exact hj, ?_⟩
  have B := A2.rel.wrt (o := .lst (us.set j w)) e1 m1 ev (y := .list (xs.set j y)) ⟨_, f1, upd_same, rps_set (rpM A2.stp.gf ok) j rs⟩
  exact k.nx _ _ _ _ q2 B.rel ((A1.stp.gf.trans A2.stp.gf).trans B.stp.gf)
/-- x op= e -/
def sAug (i : Nat) (B : PyData → PyData → PyData → Prop) (fe : DT) (P : DEnds) (r : DEnv) : Prop := ∃ x, r[i]? = some (some (Sl.d x)) ∧ fe r fun s r1 => ∃ y z, rd r1 s = some y ∧ B x y z ∧ P.nx (r1.set i (some (.d z)))
theorem ds_aug {i : Nat} {tg : Expr} {op : Operator} {ti : TIp} {B : PyData → PyData → PyData → Prop} (h : PS X (.AugAssign tg op e pos) (tAug i (tD X.K E fa) ti)) (hB : OpB X.K (fun x y H Q => ti x y H Q) B) : DS E X (.AugAssign tg op e pos) (sAug i B fa) := by
  refine wkS h fun D st H ⟨F, r, P, R, p, k⟩ => ?_
  obtain ⟨x, e0, p⟩ := p
  obtain ⟨v, ev, rv⟩ := R.dat i x e0
  refine ⟨v, ev, F, r, _, R, p, ?_⟩
  rintro s r1 w F1 H1 ⟨y, z, e1, hb, q1⟩ A1 ok n
  have fin : ∀ F2 H2 u, Rel X.K E F2 H2 st r1 → Same F F2 → Rp X.K F2 u z → D.nx (st.set i (some u)) H2 := fun F2 H2 u R2 g hu => k.nx _ _ _ _ q1 (R2.put (.inl ⟨z, rfl, hu⟩)) g
  refine hB F1 H1 v w x y z _ A1.rel.sub (.inl (rpM A1.stp.gf rv)) (A1.rel.read ok e1) hb ⟨fun u hu => fin F1 H1 u A1.rel A1.stp.gf hu, fun p o u n hu => ?_⟩
  have C := A1.rel.new (o := o) n
  exact fin _ _ u C.rel (A1.stp.gf.trans C.stp.gf) hu
end
end DL
set_option Elab.async false
set_option linter.all false
set_option autoImplicit false
set_option maxRecDepth 100000
set_option maxHeartbeats 4000000
/-! DLj: the data layer, part ten: enumerate over lists and tuples. -/
namespace PySem
open AutoSeq1 (wpAny_loadPart')
theorem dl_meets_enumT (l : Addr) (items : Array Value) (n : Nat) (dct : Option Addr) (sl : Array (Option Value)) :
    Meets (Builtin.«enumerate.__new__» ⟨[.type "enumerate", .ref l], []⟩) (fun _ R s => s.heap.get? l = some { cls := .type "tuple", dict := dct, data := .seq items n, slots := sl } ∧
      R (.ok (.ret (.ref (s.heap.push { cls := .type "tuple_iterator", data := .fields #[.ref l, .int 0 0] }).objs.size)))
        { s with heap := (s.heap.push { cls := .type "tuple_iterator", data := .fields #[.ref l, .int 0 0] }).push { cls := .type "enumerate", data := .fields #[.none, .bool false, .ref s.heap.objs.size, rawInt 0, .none, .none] } }) :=
  .of_wp fun prog w A R s h => by
    obtain ⟨hp, g, d, tk, os⟩ := s
    obtain ⟨hl, h⟩ := h
    have hsub := sub_enumerate
    have hT : Heap.IsTuple (Shared.heap ⟨hp, g, d, tk, os⟩) l items := ⟨_, hl, rfl, n, rfl⟩
    wp_walk using wpAny_loadPart' hl
    refine wpAny_stack_any fun st => wpAny_pure ?_
    split
    · rename_i c _ _ _ _ _
      cases (c == Value.type "enumerate") <;> (wp_walk using wpAny_loadPart' hl, wpAny_pyIter_tuple hT; exact ⟨_, rfl, h⟩)
    · wp_walk using wpAny_loadPart' hl, wpAny_pyIter_tuple hT
      exact ⟨_, rfl, h⟩
theorem dl_call_enumT {prog : Program} {w : World} {A : Around} {E : Value → Shared → Prop} {s : Shared} {l : Addr} {items : Array Value} {Q : Value → Shared → Prop} (hL : s.heap.IsTuple l items)
    (h : ∀ h', IsEnum h' (s.heap.objs.size + 1) s.heap.objs.size 0 .none → h'.IsTupleIter s.heap.objs.size l 0 → (∀ b o, s.heap.get? b = some o → h'.get? b = some o) → Q (.ref (s.heap.objs.size + 1)) { s with heap := h' }) :
    wpAny (model prog w) A (call (.type "enumerate") [.ref l]) Q E s := by
  obtain ⟨⟨c, dct, dt, sl⟩, hl, hc, n, hd⟩ := hL
  have hc : c = .type "tuple" := hc
  have hd : dt = .seq items n := hd
  subst hc
  subst hd
  refine callType_new F.called_enumerate (by decide) (F.typeCall_enumerate_1 _) (F.newCall_enumerate_1 _) (fun obj => F.args_object_init_2 obj _) F.entry_enumerate_new (dl_meets_enumT l items n dct sl) ⟨hl, ?_⟩
  have hz : (s.heap.push { cls := .type "tuple_iterator", data := .fields #[.ref l, .int 0 0] }).objs.size = s.heap.objs.size + 1 := Heap.size_push ..
  show _ ∧ _
  rw [hz]
  have he : IsEnum ((s.heap.push { cls := .type "tuple_iterator", data := .fields #[.ref l, .int 0 0] }).push
      { cls := .type "enumerate", data := .fields #[.none, .bool false, .ref s.heap.objs.size, rawInt 0, .none, .none] }) (s.heap.objs.size + 1) s.heap.objs.size 0 .none := by
    have q := Heap.get?_push_size (s.heap.push { cls := .type "tuple_iterator", data := .fields #[.ref l, .int 0 0] })
      (o := { cls := .type "enumerate", data := .fields #[.none, .bool false, .ref s.heap.objs.size, rawInt 0, .none, .none] }) rfl
    rw [hz] at q
    exact q
  exact ⟨⟨_, he, rfl⟩, h _ he ⟨_, Heap.get?_push_of_some _ (Heap.get?_push_size _ rfl), rfl, rfl⟩ fun b o x => Heap.get?_push_of_some _ (Heap.get?_push_of_some _ x)⟩
end PySem
namespace DL
open PySem PySem.Spec PyProof.Rows L2
def enumD (xs : List PyData) : List PyData := xs.mapIdx fun i x => .tuple [.int (i : Nat), x]
/-- the tuple at a, each item in a new pair -/
def IteT (K : PySem.W.Frag) (a : Addr) : It :=
  ⟨fun i H => ∃ (xs : List V) (x : V), SqT K H a xs ∧ xs[i]? = some x, fun i H v H' => ∃ T x, v = .ref T ∧ H T = none ∧ H' = upd H T (.tup [.int (i : Nat), x]) ∧ ∀ xs, SqT K H a xs → xs[i]? = some x, fun i H => ∃ xs : List V, SqT K H a xs ∧ xs.length = i⟩
theorem turn_enumT {P : Program} {w : World} {K : PySem.W.Frag} {elts : List Expr} {kk : Nat} {tpos : Pos} (a e it : Addr) :
    Turn P w K (.Tuple elts kk tpos) (IteT K a) [e, it] e (fun i h => (∃ old, IsEnum h e it ((i : Nat) : Int) old) ∧ h.IsTupleIter it a i ∧ e ≠ it) where
  mem := by simp
  obj := by
    intro i h st b hb
    obtain ⟨⟨old, he⟩, ⟨o, ho, hc, hd⟩, _⟩ := st
    rcases List.mem_cons.mp hb with z | z
    · rw [z]; exact ⟨_, he, fun v q => nomatch q⟩
    · rw [List.mem_singleton.mp z]; exact ⟨o, ho, fun v q => by rw [hd] at q; cases q⟩
  keep := by
    intro i h h' ⟨⟨old, he⟩, hi, hne⟩ k
    exact ⟨⟨old, k e (by simp) _ he⟩, hi.at fun o q => k it (by simp) o q, hne⟩
  item := by
    intro X hP hw hK hc i pins s σ H E I hf st hg
    subst hP hw hK
    obtain ⟨⟨old, he⟩, hit, hne⟩ := st
    obtain ⟨xs, x, hq, hx⟩ := hg
    obtain ⟨its, rv, pt, hz⟩ := I.tuple hq
    have pt' : s.heap.IsTuple a its.toArray := pt
    obtain ⟨u, hu, ru⟩ := rv.get hx
    have hel : e < s.heap.objs.size := Heap.lt_size he
    have hil : it < s.heap.objs.size := by obtain ⟨_, q, _⟩ := hit; exact Heap.lt_size q
    have nai : a ≠ it := fun z => by
      obtain ⟨o, e1, c1, _⟩ := pt'
      obtain ⟨o', e2, c2, _⟩ := hit
      rw [z, e2] at e1
      cases e1
      rw [c1] at c2
      exact absurd (Value.type.inj c2) (by decide)
    have nae : e ≠ a := fun z => by
      obtain ⟨o, e1, c1, _⟩ := pt'
      rw [← z, he] at e1
      cases e1
      exact absurd (Value.type.inj c1) (by decide)
    have hlt : i < its.toArray.size := by
      rw [List.size_toArray]
      exact (List.getElem?_eq_some_iff.mp hu).1
    refine wpAny_pyNext_enum_itemC (Draws.tuple (A := X.A.in1) (I.ok.hd hc) it a nai its.toArray) he ⟨hit, pt'⟩ hlt hne (by simp [hne, nae]) fun y h' tk hy ho hst hT hsz hk => ?_
    have ey : y = u := by
      rw [List.getElem?_toArray, hu] at hy
      exact (Option.some.inj hy).symm
    subst ey
    refine ⟨_, rfl, wpAny_letOwnedTupleGo_enum (s := { s with heap := h', toks := tk + 1 }) ho fun h'' he' sb => ?_⟩
    have hT2 : h''.get? s.heap.objs.size = some { cls := .type "tuple", data := .seq #[.int i tk, y] } := (sb.2 _ (Nat.ne_of_gt hel)).trans hT
    have new : ObjOk X.prog X.w (upd H s.heap.objs.size (.tup [.int (i : Nat), x])) h'' s.heap.objs.size (.tup [.int (i : Nat), x]) :=
      ⟨by show 2 ≤ sizeLine; decide, [.int i tk, y], .cons ⟨_, rfl⟩ (.cons ru .nil), ⟨_, hT2, rfl, _, rfl⟩⟩
    have I1 : Inv X pins σ (upd H s.heap.objs.size (.tup [.int (i : Nat), x])) { s with heap := h'', toks := tk + 1 } :=
      I.turnedNew (ch := [e, it]) (fun b ob hb q => (sb.2 b (fun z => hb (by simp [z]))).trans (hk b ob (fun z => hb (by simp [z])) (fun z => hb (by simp [z])) q)) hf (Nat.le_refl _) new
    refine ⟨.ref s.heap.objs.size, _, I1, rfl, ⟨_, x, rfl, I.hok.fresh (Nat.le_refl _), rfl, fun ys hy => by rw [I.tuple_inj hy hq]; exact hx⟩, ⟨⟨y, ?_⟩, hst.1.at fun o q => (sb.2 it (Ne.symm hne)).trans q, hne⟩, fun b hb => ?_⟩
    · have e1 : ((i + 1 : Nat) : Int) = (i : Int) + 1 := by omega
      rw [e1]
      exact he'
    · have hb' : b < s.heap.objs.size := by
        rcases List.mem_cons.mp hb with z | z
        · rw [z]; exact hel
        · rw [List.mem_singleton.mp z]; exact hil
      rw [upd_ne (Nat.ne_of_lt hb')]
      exact (hf b hb).1
  done := by
    intro X hP hw hK hc i pins s σ H E I hf st hg
    subst hP hw hK
    obtain ⟨⟨old, he⟩, hit, hne⟩ := st
    obtain ⟨xs, hq, hx⟩ := hg
    obtain ⟨its, rv, pt, hz⟩ := I.tuple hq
    have pt' : s.heap.IsTuple a its.toArray := pt
    obtain ⟨f0, f1, f2, f3, f4, f5⟩ := hf it (by simp)
    have nai : a ≠ it := fun z => by
      obtain ⟨o, e1, c1, _⟩ := pt'
      obtain ⟨o', e2, c2, _⟩ := hit
      rw [z, e2] at e1
      cases e1
      rw [c1] at c2
      exact absurd (Value.type.inj c2) (by decide)
    have en : its.toArray.size = i := by
      rw [List.size_toArray, ← rv.length]
      exact hx
    have D := Draws.tuple (prog := X.prog) (w := X.w) (A := X.A.in1) (I.ok.hd hc) it a nai its.toArray
    rw [en] at D
    exact wpAny_pyNext_enum_endD D he ⟨hit, pt'⟩ fun h' eb => ⟨rfl, I.turned (t' := s.toks) (fun b o hb q => eb b o hb q) f0 f1 f3 f4 f5⟩
  self := by
    intro A i s Q E ⟨⟨_, he⟩, _⟩ h
    exact wpAny_pyIter_enum he h
section
variable {X : Cx} {E : Ent} {e a b : Expr} {pos p tpos : Pos} {fa : DT} {ga : DTF} {K : PySem.W.Frag} {F H : Hp} {elts : List Expr} {kk : Nat}
def iEnumT (K : PySem.W.Frag) (ta : TA) : TI := fun σ H R => ta σ H fun vs H1 => ∃ a xs, vs = [.ref a] ∧ SqT K H1 a xs ∧ R (IteT K a) H1
theorem pi_enumT {ta : TA} (hg : Gl X "enumerate") (hm : X.mg "enumerate" = none) (ha : PA X [e] ta) (hs : starEach [e] X.env = [(false, eval e X.env)] := by rfl) :
    PI X (.Tuple elts kk tpos) (.Call (.Name "enumerate" p) [e] [] pos) (iEnumT X.K ta) := by
  constructor
  intro pins s σ H R I h
  refine Call_ (ld_blt I hg hm boot_enumerate (PyProof.Rows.callWith_type1 (thn (ha.run pos pins s σ H _ I h) fun us s1 ⟨vs, H1, I1, r1, q1⟩ => ?_) hs rfl))
  obtain ⟨a, xs, ex, hq, q⟩ := q1
  subst ex
  cases r1 with
  | cons r rr =>
    cases rr
    cases r
    obtain ⟨its, rv, p', hz⟩ := I1.tuple hq
    refine dl_call_enumT (show s1.heap.IsTuple a its.toArray from p') fun h' he hit hk => wpAny_pyIter_enum he ?_
    have I2 : Inv X pins σ H1 { s1 with heap := h' } := I1.kept (t' := s1.toks) hk
    refine ⟨s1.heap.objs.size + 1, [s1.heap.objs.size + 1, s1.heap.objs.size], _, _, H1, rfl, I2, turn_enumT a (s1.heap.objs.size + 1) s1.heap.objs.size, ⟨⟨.none, he⟩, hit, Nat.succ_ne_self _⟩, fun b hb => ?_, q⟩
    have hle : s1.heap.objs.size ≤ b := by
      rcases List.mem_cons.mp hb with z | z
      · rw [z]; exact Nat.le_add_right _ _
      · rw [List.mem_singleton.mp z]; exact Nat.le_refl _
    exact I1.fpOk hle (I1.hok.fresh hle)
theorem walk_enumT {a : Addr} {xs : List V} : Walk (IteT K a) xs.length (fun H => SqT K H a xs) (YPair (fun i => some (.int (i : Nat))) (fun i => xs[i]?)) := by
  refine ⟨fun i _ hi q => ⟨xs, xs[i], q, by simp [hi]⟩, fun _ q => ⟨xs, q, rfl⟩, fun i H v H' _ q y => ?_⟩
  obtain ⟨T, x, h1, h2, h3, h4⟩ := y
  exact ⟨T, .int (i : Nat), x, h1, h2, h3, rfl, h4 xs q⟩
theorem dwalk_pair {J : It} {n : Nat} {G : Hp → Prop} {fs gs : Nat → Option V} {xs : List PyData} (w : Walk J n G (YPair fs gs)) (hn : xs.length = n) (hG : ∀ F1 H, Same F F1 → Sub F1 H → G H)
    (hx : ∀ i u v, i < n → fs i = some u → gs i = some v → ∃ x y, xs[i]? = some (.tuple [x, y]) ∧ Rp K F u x ∧ Rp K F v y) : DWalk K F J xs := by
  refine ⟨G, _, by rw [hn]; exact w, hG, fun i F1 H v H' hi s g y => ?_⟩
  obtain ⟨T, u, v', e1, e2, e3, e4, e5⟩ := y
  obtain ⟨x, y, q1, q2, q3⟩ := hx i u v' (hn ▸ hi) e4 e5
  exact ⟨_, q1, .inr ⟨T, _, _, e1, e2, e3, rfl, .cons q2 (.cons q3 .nil)⟩⟩
theorem enumD_len (xs : List PyData) : (enumD xs).length = xs.length := by unfold enumD; simp
theorem enumD_at {xs : List PyData} {i : Nat} {x : PyData} (h : xs[i]? = some x) : (enumD xs)[i]? = some (.tuple [.int (i : Nat), x]) := by
  unfold enumD
  simp [h]
def iEnumL (fa : DTF) (r : DEnv) (P : List PyData → DEnv → Prop) : Prop := fa r fun ys r1 => ∃ xs, ys = [.list xs] ∧ P (enumD xs) r1
def iEnumTu (fa : DTF) (r : DEnv) (P : List PyData → DEnv → Prop) : Prop := fa r fun ys r1 => ∃ xs, ys = [.tuple xs] ∧ P (enumD xs) r1
theorem di_enumL (hg : Gl X "enumerate") (hm : X.mg "enumerate" = none) (h : DF E X [e] ga) (hs : starEach [e] X.env = [(false, eval e X.env)] := by rfl) : PI X (.Tuple elts kk tpos) (.Call (.Name "enumerate" p) [e] [] pos) (tDI X.K E (iEnumL ga)) :=
  wkI (pi_enum hg hm h hs) fun st H R ⟨F, r, P, R0, p, k⟩ => ⟨F, r, _, R0, p, fun ys r1 vs F1 H1 q1 A1 ok => by
    obtain ⟨xs, e, q⟩ := q1
    subst e
    cases ok with
    | cons h0 t =>
      cases t
      cases h0 with
      | lst h1 h2 =>
        refine ⟨_, _, rfl, A1.rel.sub.seq h1, k _ _ _ _ _ q A1 (dwalk_pair walk_enum (by rw [enumD_len, rps_len h2]) (fun F2 H s g => g.seq (s.seq h1)) fun i u v hi e1 e2 => ?_)⟩
        cases e1
        obtain ⟨x, e3, e4⟩ := rps_at' h2 e2
        exact ⟨_, _, enumD_at e3, .int _, e4⟩⟩
theorem di_enumT (hg : Gl X "enumerate") (hm : X.mg "enumerate" = none) (h : DF E X [e] ga) (hs : starEach [e] X.env = [(false, eval e X.env)] := by rfl) : PI X (.Tuple elts kk tpos) (.Call (.Name "enumerate" p) [e] [] pos) (tDI X.K E (iEnumTu ga)) :=
  wkI (pi_enumT hg hm h hs) fun st H R ⟨F, r, P, R0, p, k⟩ => ⟨F, r, _, R0, p, fun ys r1 vs F1 H1 q1 A1 ok => by
    obtain ⟨xs, e, q⟩ := q1
    subst e
    cases ok with
    | cons h0 t =>
      cases t
      cases h0 with
      | tup h1 h2 =>
        refine ⟨_, _, rfl, A1.rel.sub.tup h1, k _ _ _ _ _ q A1 (dwalk_pair walk_enumT (by rw [enumD_len, rps_len h2]) (fun F2 H s g => g.tup (sameT s h1)) fun i u v hi e1 e2 => ?_)⟩
        cases e1
        obtain ⟨x, e3, e4⟩ := rps_at' h2 e2
        exact ⟨_, _, enumD_at e3, .int _, e4⟩⟩
end
end DL
set_option Elab.async false
set_option linter.all false
set_option autoImplicit false
set_option maxRecDepth 100000
set_option maxHeartbeats 4000000
/-! DLk: the data layer, part eleven: sums of lists and tuples, several names at once. -/
namespace DL
open PySem PySem.Spec PyProof.Rows L2
section
variable {X : Cx} {E : Ent} {e a b : Expr} {es : List Expr} {pos p tpos : Pos} {fa fb : DT} {ga : DTF} {K : PySem.W.Frag} {F H F' H' : Hp} {st : St} {r r' : DEnv}
/-! ### + of lists and of tuples -/
def rCatR (K : PySem.W.Frag) : R2 := fun x y H Q => ∃ l b xs zs, x = .ref l ∧ y = .ref b ∧ SqL K H l xs ∧ SqL K H b zs ∧ xs.length + zs.length ≤ sizeLine ∧ ∀ p, H p = none → Q (.ref p) (upd H p (.lst (xs ++ zs)))
theorem op_catR : OpR X (binaryOp .Add) (rCatR X.K) := by
  intro pins s σ H x y v u Q I rx ry h
  obtain ⟨l, b, xs, zs, rfl, rfl, hH, hB, hz, q⟩ := h
  cases rx
  cases ry
  obtain ⟨its, r, p1, _⟩ := I.list hH
  obtain ⟨its2, r2, p2, _⟩ := I.list hB
  have l1 := r.length
  have l2 := r2.length
  obtain ⟨⟨cls, dd, data, sl⟩, ho, hc, n, hd⟩ := p1.isList
  obtain ⟨⟨cls2, dd2, data2, sl2⟩, ho2, hc2, n2, hd2⟩ := p2.isList
  have hc : cls = .type "list" := hc
  have hd : data = .seq its.toArray n := hd
  have hc2 : cls2 = .type "list" := hc2
  have hd2 : data2 = .seq its2.toArray n2 := hd2
  subst hc hd hc2 hd2
  refine concat_meets ⟨_, ho, rfl⟩ ⟨_, ho2, rfl⟩ noFill_list_add seq_list_add PySem.F.slot_list_add PySem.F.entry_list_add (PySem.F.args_list_add_2 _ _) (list_addW l b its.toArray its2.toArray n n2 dd dd2 sl sl2 (by rw [List.size_toArray, List.size_toArray]; omega)) ⟨ho, ho2, ?_⟩
  have ea : its.toArray ++ its2.toArray = (its ++ its2).toArray := by simp
  rw [ea]
  exact ⟨.ref _, _, I.lnew (t' := s.toks) (r.append r2) (by rw [List.length_append]; omega), rfl, q _ I.fresh⟩
def bCatL : PyData → PyData → List PyData → Prop := fun x y zs => ∃ xs ys, x = .list xs ∧ y = .list ys ∧ xs.length + ys.length ≤ sizeLine ∧ zs = xs ++ ys
theorem opB_catL : OpBL K (rCatR K) bCatL := by
  intro F H v w x y z Q g h1 h2 ⟨xs, ys, e1, e2, hl, e3⟩ hy
  subst e1 e2 e3
  obtain ⟨p, vs, ev, hp, rp⟩ := h1.seq g
  obtain ⟨q, ws, ew, hq, rq⟩ := h2.seq g
  subst ev ew
  exact ⟨p, q, vs, ws, rfl, rfl, hp, hq, by rw [rps_len rp, rps_len rq]; exact hl, fun l hl => hy l _ hl (rps_app rp rq)⟩
theorem de_catL (ha : DE E X a fa) (hb : DE E X b fb) : DE E X (.BinOp a .Add b pos) (dOpL bCatL fa fb) := de_opL op_catR opB_catL ha hb
def bCatT : PyData → PyData → PyData → Prop := fun x y z => ∃ xs ys, x = .tuple xs ∧ y = .tuple ys ∧ xs.length + ys.length ≤ sizeLine ∧ z = .tuple (xs ++ ys)
theorem rps_nil {vs : List V} {xs : List PyData} (h : Rps K F vs xs) : vs = [] ↔ xs = [] := by
  cases h with
  | nil => exact ⟨fun _ => rfl, fun _ => rfl⟩
  | cons a t => exact Iff.intro (fun h => nomatch h) (fun h => nomatch h)
theorem Rdv.tupF {v : V} {xs : List PyData} (h : Rdv K F H v (.tuple xs)) : ∃ p vs, v = .ref p ∧ SqT K F p vs ∧ Rps K F vs xs := by
  rcases h with h | ⟨p, rfl, z⟩
  · cases h with
    | tup a b => exact ⟨_, _, rfl, a, b⟩
  · exact z.elim
theorem opB_catT : OpB K (rCatA K) bCatT := by
  intro F H v w x y z Q g h1 h2 ⟨xs, ys, e1, e2, hl, e3⟩ hy
  subst e1 e2 e3
  obtain ⟨p, vs, ev, hp, rp⟩ := h1.tupF
  obtain ⟨q, ws, ew, hq, rq⟩ := h2.tupF
  subst ev ew
  refine ⟨p, q, vs, ws, rfl, rfl, g.tup hp, g.tup hq, by rw [rps_len rp, rps_len rq]; exact hl, fun e => ?_, fun e1 e2 => ?_, fun e1 e2 l hn => ?_⟩
  · have := (rps_nil rp).mp e
    subst this
    exact hy.1 _ (.tup hq rq)
  · have := (rps_nil rq).mp e2
    subst this
    rw [List.append_nil] at hy
    exact hy.1 _ (.tup hp rp)
  · exact hy.2 l _ _ hn (.tup (SqT.of upd_same) (rpsM (same_upd (g.free hn)) (rps_app rp rq)))
theorem de_catT (ha : DE E X a fa) (hb : DE E X b fb) : DE E X (.BinOp a .Add b pos) (dOp bCatT fa fb) := de_op op_catA opB_catT ha hb
/-- + whatever its operands are: ints, texts, tuples -/
def bStr : PyData → PyData → PyData → Prop := fun x y z => ∃ s t : Str, x = .str s ∧ y = .str t ∧ s.length + t.length ≤ sizeLine ∧ z = .str (s ++ t)

/-! ### several names at once -/
def NDis : List V → List Vl → Prop
  | v :: vs, s :: ss => (∀ (j : Nat) (x : PyData) (y : PyData), s = .n x → ss[j]? = some (Vl.n y) → vs[j]? ≠ some v) ∧ NDis vs ss
  | _, _ => True
def tDM (K : PySem.W.Frag) (E : Ent) (f : DTA) : TA := fun st H Q => ∃ F r P, Rel K E F H st r ∧ f r P ∧ ∀ ss r' vs F' H', P ss r' → Aft K E F H st r F' H' r' → Paired (VlOk K F' H' st r') vs ss → Paired (New H) vs ss → NDis vs ss → Q vs H'
def mCons (fa : DT) (ha : DTA) (r : DEnv) (P : List Vl → DEnv → Prop) : Prop := fa r fun s r1 => ha r1 fun ss r2 => P (s :: ss) r2
theorem paired_at {α β : Type} {R : α → β → Prop} {xs : List α} {ys : List β} (h : Paired R xs ys) : ∀ {i : Nat} {x : α} {y : β}, xs[i]? = some x → ys[i]? = some y → R x y := by
  induction h with
  | nil => intro i x y e; simp at e
  | cons a _ ih =>
    intro i x y e e'
    cases i with
    | zero =>
      simp only [List.getElem?_cons_zero, Option.some.injEq] at e e'
      exact e ▸ e' ▸ a
    | succ i =>
      simp only [List.getElem?_cons_succ] at e e'
      exact ih e e'
theorem dm_nil : PA X [] (tDM X.K E aNil) := wkA pa_nil fun st H Q ⟨F, r, P, R, p, k⟩ => k _ _ _ _ _ p (.refl R) .nil .nil trivial
theorem dm_cons {ha : DTA} (h : DE E X e fa) (t : PA X es (tDM X.K E ha)) (hs : starEach (e :: es) X.env = (false, eval e X.env) :: starEach es X.env := by rfl) : PA X (e :: es) (tDM X.K E (mCons fa ha)) := by
  refine wkA (pa_cons h t hs) fun st H Q ⟨F, r, P, R, p, k⟩ => ⟨F, r, _, R, p, fun s r1 v F1 H1 q1 A1 ok1 n1 => ?_⟩
  refine ⟨F1, r1, _, A1.rel, q1, fun ss r2 vs F2 H2 q2 A2 ok2 n2 nd => k _ _ _ _ _ q2 (A1.trans A2) (.cons (ok1.aft A2) ok2) (.cons n1 (Paired.mapP n2 fun _ _ z => A1.newBack z)) ⟨fun j x y es ej ev => ?_, nd⟩⟩
  subst es
  obtain ⟨p', e1, ob, _⟩ := ok1
  subst e1
  obtain ⟨⟨u, hu⟩, _⟩ := ob.some
  have hn := paired_at n2 ev ej
  have := hn p' rfl
  rw [hu] at this
  cases this
def putAll (r : DEnv) : List Nat → List Vl → (DEnv → Prop) → Prop
  | [], [], Q => Q r
  | i :: is, s :: ss, Q => putV r i (fun r2 => putAll r2 is ss Q) s
  | _, _, _ => False
def setAll (st : St) : List Nat → List V → St
  | i :: is, v :: vs => setAll (st.set i (some v)) is vs
  | _, _ => st
theorem mutA_new {i : Nat} {v : V} {s : Sl} {a : Addr} (h : MutA (st.set i (some v)) (r.set i (some s)) a) : MutA st r a ∨ (v = .ref a ∧ Sl.mu s = true) := by
  obtain ⟨j, t, h1, h2, h3⟩ := h
  by_cases e : j = i
  · subst e
    rw [List.getElem?_set] at h1 h3
    split at h1
    · split at h1
      · cases h1
        split at h3
        · split at h3
          · cases h3
            exact .inr ⟨rfl, h2⟩
          · cases h3
        · rename_i z; exact (z rfl).elim
      · cases h1
    · rename_i z; exact (z rfl).elim
  · rw [List.getElem?_set_ne (Ne.symm e)] at h1 h3
    exact .inl ⟨j, t, h1, h2, h3⟩
theorem put_all {Q : DEnv → Prop} : ∀ (is : List Nat) (ss : List Vl) (vs : List V) (tt : St) (rr : DEnv), Rel K E F H tt rr → Paired (VlOk K F H tt rr) vs ss → (∀ (j : Nat) (x : PyData) (q : Addr), ss[j]? = some (Vl.n x) → vs[j]? = some (V.ref q) → E.H0 q = none) → NDis vs ss →
    (∀ s ∈ ss, ∀ i, s ≠ .v i) → putAll rr is ss Q → ∃ r2, Q r2 ∧ Rel K E F H (setAll tt is vs) r2
  | [], [], _, st, r, R, .nil, _, _, _, q => ⟨r, q, R⟩
  | [], _ :: _, _, _, _, _, _, _, _, _, q => q.elim
  | _ :: _, [], _, _, _, _, _, _, _, _, q => q.elim
  | i :: is, s :: ss, v :: vs, st, r, R, .cons ok oks, n0, nd, nv, q => by
    have q : putV r i (fun r2 => putAll r2 is ss Q) s := q
    have rest : ∀ (t : Sl), (∃ x, s = .d x ∧ t = .d x) ∨ (∃ x, s = .n x ∧ t = .l x) → Paired (VlOk K F H (st.set i (some v)) (r.set i (some t))) vs ss := fun t ht => by
      have go : ∀ {us : List V} {ts : List Vl}, Paired (VlOk K F H st r) us ts → (∀ (j : Nat) (x y : PyData), s = .n x → ts[j]? = some (Vl.n y) → us[j]? ≠ some v) → (∀ u ∈ ts, ∀ i, u ≠ .v i) → Paired (VlOk K F H (st.set i (some v)) (r.set i (some t))) us ts := by
        intro us ts h
        induction h with
        | nil => intro _ _; exact .nil
        | @cons u t0 us ts a _ ih =>
          intro hd hv
          refine .cons ?_ (ih (fun j x y e e' => by have := hd (j + 1) x y e (by simpa using e'); simpa using this) fun u hu => hv u (List.mem_cons_of_mem _ hu))
          cases t0 with
          | d x => exact a
          | v k => exact (hv _ List.mem_cons_self k rfl).elim
          | n x =>
            obtain ⟨p', e1, ob, m⟩ := a
            refine ⟨p', e1, ob, fun z => ?_⟩
            rcases mutA_new z with z | ⟨z1, z2⟩
            · exact m z
            · rcases ht with ⟨x', _, e2⟩ | ⟨x', e2, _⟩
              · subst e2; cases z2
              · exact hd 0 x' x e2 rfl (by rw [e1, z1]; rfl)
      exact go oks nd.1 fun u hu => nv u (List.mem_cons_of_mem _ hu)
    cases s with
    | d x => exact put_all is ss vs _ _ (R.put (.inl ⟨x, rfl, ok⟩)) (rest _ (.inl ⟨x, rfl, rfl⟩)) (fun j x q e e' => n0 (j + 1) x q (by simpa using e) (by simpa using e')) nd.2 (fun u hu => nv u (List.mem_cons_of_mem _ hu)) q
    | v k => exact q.elim
    | n x =>
      obtain ⟨p', e1, ob, m⟩ := ok
      subst e1
      exact put_all is ss vs _ _ (R.put (.inr ⟨x, p', rfl, rfl, ob, m, n0 0 x p' rfl rfl⟩)) (rest _ (.inr ⟨x, rfl, rfl⟩)) (fun j x q e e' => n0 (j + 1) x q (by simpa using e) (by simpa using e')) nd.2 (fun u hu => nv u (List.mem_cons_of_mem _ hu)) q
/-- a, b = e, f -/
def sPar (is : List Nat) (ha : DTA) (P : DEnds) (r : DEnv) : Prop := ha r fun ss r1 => (∀ s ∈ ss, ∀ i, s ≠ .v i) ∧ ss.length = is.length ∧ putAll r1 is ss P.nx
theorem par_fin {is : List Nat} {ss : List Vl} {vs : List V} {P : DEnds} {D : Ends} (R : Rel K E F H st r) (A : Aft K E F H st r F' H' r') (ok : Paired (VlOk K F' H' st r') vs ss) (n : Paired (New H) vs ss) (nd : NDis vs ss) (nv : ∀ s ∈ ss, ∀ i, s ≠ .v i) (q : putAll r' is ss P.nx) (k : EndsOk K E F P D) : D.nx (setAll st is vs) H' := by
  obtain ⟨r2, q2, R2⟩ := put_all is ss vs st r' A.rel ok (fun j x p' e e' => R.fresh0 (paired_at n e' e p' rfl)) nd nv q
  exact k.nx _ _ _ _ q2 R2 A.stp.gf
theorem ds_par {i j : Nat} {tg vl : Expr} {ha : DTA} (h : PS X (.Assign [tg] vl pos) (tPar i j (tDM X.K E ha))) : DS E X (.Assign [tg] vl pos) (sPar [i, j] ha) := by
  refine wkS h fun D st H ⟨F, r, P, R, p, k⟩ => ⟨F, r, _, R, p, fun ss r1 vs F1 H1 q1 A1 ok n nd => ?_⟩
  obtain ⟨nv, hl, q⟩ := q1
  have lv : vs.length = 2 := by rw [paired_len ok]; exact hl
  match vs, lv with
  | [v, w], _ => exact ⟨v, w, rfl, par_fin R A1 ok n nd nv q k⟩
/-- the names of a tuple of names -/
def gNames (is : List Nat) : TGs := fun vs σ H Q => vs.length = is.length ∧ Q (setAll σ is vs) H
theorem pgs_names0 : PGs X [] (gNames []) := ⟨fun pins s σ H vs us Q I rv ⟨h, q⟩ => by
  cases vs with
  | nil => exact (pgs_nil (X := X)).run pins s σ H [] us Q I rv ⟨rfl, q⟩
  | cons v vs => cases h⟩
theorem pgs_namesS {i : Nat} {is : List Nat} {t : Expr} {ts : List Expr} (h1 : PG X t (gName i)) (h2 : PGs X ts (gNames is)) (hs : (assignEach (t :: ts) X.env).map (·.2) = assign t X.env :: (assignEach ts X.env).map (·.2) := by rfl) : PGs X (t :: ts) (gNames (i :: is)) :=
  ⟨fun pins s σ H vs us Q I rv ⟨h, q⟩ => by
    cases vs with
    | nil => cases h
    | cons v vs => exact (pgs_cons h1 h2 hs).run pins s σ H (v :: vs) us Q I rv ⟨v, vs, rfl, Nat.succ.inj h, q⟩⟩
theorem ds_parN {is : List Nat} {tg vl : Expr} {ha : DTA} (h : PS X (.Assign [tg] vl pos) (tAsg (tTup (tDM X.K E ha)) (gTup X.K is.length (gNames is)))) (hz : is.length ≤ sizeLine) : DS E X (.Assign [tg] vl pos) (sPar is ha) := by
  refine wkS h fun D st H ⟨F, r, P, R, p, k⟩ => ⟨F, r, _, R, p, fun ss r1 vs F1 H1 q1 A1 ok n nd => ?_⟩
  obtain ⟨nv, hl, q⟩ := q1
  have lv : vs.length = is.length := by rw [paired_len ok]; exact hl
  refine ⟨by rw [lv]; exact hz, fun p' np => ⟨p', vs, rfl, SqT.of upd_same, lv, lv, ?_⟩⟩
  have B := A1.rel.newH (o := .tup vs) np
  exact par_fin R (A1.trans B) (Paired.mapP ok fun _ _ z => z.aft B) n nd nv q k
end
end DL
set_option Elab.async false
set_option linter.all false
set_option autoImplicit false
set_option maxRecDepth 100000
set_option maxHeartbeats 4000000
/-! DLl: the data layer, part twelve: operators whatever the operands are; defs by name. -/
namespace DL
open PySem PySem.Spec PyProof.Rows L2
section
variable {X : Cx} {E : Ent} {e a b : Expr} {es : List Expr} {pos p tpos : Pos} {fa fb : DT} {ga : DTF} {ha : DTA} {K : PySem.W.Frag} {F H F' H' : Hp} {st : St} {r r' : DEnv}
/-! ### operators by values -/
/-- an operation's result, as a value -/
def dOpV (B : PyData → PyData → Vl → Prop) (fa fb : DT) (r : DEnv) (P : Vl → DEnv → Prop) : Prop := fa r fun s r1 => fb r1 fun t r2 => ∃ x y w, rd r2 s = some x ∧ rd r2 t = some y ∧ B x y w ∧ P w r2
def YldV (K : PySem.W.Frag) (F H : Hp) (w : Vl) (Q : VK) : Prop := match w with
  | .d z => Yld K F H z Q
  | .n (.list zs) => YldL K F H zs Q
  | _ => False
def OpBV (K : PySem.W.Frag) (rr : R2) (B : PyData → PyData → Vl → Prop) : Prop := ∀ F H v w x y z Q, Sub F H → Rdv K F H v x → Rdv K F H w y → B x y z → YldV K F H z Q → rr v w H Q
theorem op_binV {rr : R2} {B : PyData → PyData → Vl → Prop} (h : OpBV K rr B) (hB : ∀ x y w, B x y w → (∃ z, w = .d z) ∨ ∃ zs, w = .n (.list zs)) : ∀ st H Q, tD K E (dOpV B fa fb) st H Q → tOp rr (tD K E fa) (tD K E fb) st H Q := fun st H Q ⟨F, r, P, R, p, k⟩ =>
  ⟨F, r, _, R, p, fun s r1 v F1 H1 q1 A1 ok1 n1 => ⟨F1, r1, _, A1.rel, q1, fun t r2 w F2 H2 q2 A2 ok2 n2 => by
    obtain ⟨x, y, z, e1, e2, hb, q⟩ := q2
    refine h F2 H2 v w x y z Q A2.rel.sub (A2.rel.read (ok1.aft A2) e1) (A2.rel.read ok2 e2) hb ?_
    rcases hB x y z hb with ⟨z', rfl⟩ | ⟨zs, rfl⟩
    · exact yld_of (A1.trans A2) q k
    · exact yldL_of (A1.trans A2) q k⟩⟩
def bAddU : PyData → PyData → Vl → Prop
  | .int i, .int j, w => w = .d (.int (i + j))
  | .str s, .str t, w => s.length + t.length ≤ sizeLine ∧ w = .d (.str (s ++ t))
  | .tuple xs, .tuple ys, w => xs.length + ys.length ≤ sizeLine ∧ w = .d (.tuple (xs ++ ys))
  | .list xs, .list ys, w => xs.length + ys.length ≤ sizeLine ∧ w = .n (.list (xs ++ ys))
  | _, _, _ => False
abbrev rAddU (K : PySem.W.Frag) : R2 := fun x y H Q => (rI0 (fun i j => .int (i + j)) x y H Q ∨ rCatA K x y H Q) ∨ (rCatR K x y H Q ∨ ∃ s t : Str, x = .str s ∧ y = .str t ∧ s.length + t.length ≤ sizeLine ∧ Q (.str (s ++ t)) H)
theorem opB_addU : OpBV K (rAddU K) bAddU := by
  intro F H v w x y z Q g h1 h2 hb hy
  unfold bAddU at hb
  split at hb
  · subst hb
    exact .inl (.inl ⟨_, _, h1.int, h2.int, hy.1 _ (.int _)⟩)
  · obtain ⟨hl, e⟩ := hb
    subst e
    exact .inr (.inr ⟨_, _, h1.str, h2.str, hl, hy.1 _ (.str _)⟩)
  · obtain ⟨hl, e⟩ := hb
    subst e
    exact .inl (.inr (opB_catT F H v w _ _ _ Q g h1 h2 ⟨_, _, rfl, rfl, hl, rfl⟩ hy))
  · obtain ⟨hl, e⟩ := hb
    subst e
    exact .inr (.inl (opB_catL F H v w _ _ _ Q g h1 h2 ⟨_, _, rfl, rfl, hl, rfl⟩ hy))
  · exact hb.elim
theorem bAddU_v : ∀ x y w, bAddU x y w → (∃ z, w = .d z) ∨ ∃ zs, w = .n (.list zs) := by
  intro x y w h
  unfold bAddU at h
  split at h
  · exact .inl ⟨_, h⟩
  · exact .inl ⟨_, h.2⟩
  · exact .inl ⟨_, h.2⟩
  · exact .inr ⟨_, h.2⟩
  · exact h.elim
theorem de_addU (ha : DE E X a fa) (hb : DE E X b fb) : DE E X (.BinOp a .Add b pos) (dOpV bAddU fa fb) :=
  wkE (pe_op (opR_or (opR_or op_add op_catA) (opR_or op_catR op_add_str)) ha hb) (op_binV opB_addU bAddU_v)
/-- %, // by what is positive -/
def bModP : PyData → PyData → PyData → Prop := fun x y z => ∃ i j : Int, x = .int i ∧ y = .int j ∧ 0 < j ∧ z = .int (i % j)
theorem de_modP (ha : DE E X a fa) (hb : DE E X b fb) : DE E X (.BinOp a .Mod b pos) (dOp bModP fa fb) := by
  refine de_op op_modN ?_ ha hb
  intro F H v w x y z Q g h1 h2 ⟨i, j, e1, e2, hj, e3⟩ hy
  subst e1 e2 e3
  refine ⟨i, j, h1.int, h2.int, by show j ≠ 0; omega, ?_⟩
  show Q (.int (i.fmod j)) H
  rw [Int.fmod_eq_emod_of_nonneg i (by omega)]
  exact hy.1 _ (.int _)
def bDivP : PyData → PyData → PyData → Prop := fun x y z => ∃ i j : Int, x = .int i ∧ y = .int j ∧ 0 < j ∧ (j < 1073741824 ∨ CDivW i j) ∧ z = .int (i / j)
theorem de_divP (ha : DE E X a fa) (hb : DE E X b fb) : DE E X (.BinOp a .FloorDiv b pos) (dOp bDivP fa fb) := by
  refine de_op (opR_or op_fdivN op_fdivW) ?_ ha hb
  intro F H v w x y z Q g h1 h2 ⟨i, j, e1, e2, hj, hc, e3⟩ hy
  subst e1 e2 e3
  rcases hc with hc | hc
  · refine .inl ⟨i, j, h1.int, h2.int, ⟨by show j ≠ 0; omega, by show j.natAbs < 1073741824; omega⟩, ?_⟩
    show Q (.int (i.fdiv j)) H
    rw [Int.fdiv_eq_ediv_of_nonneg i (by omega)]
    exact hy.1 _ (.int _)
  · exact .inr ⟨i, j, h1.int, h2.int, hc, hy.1 _ (.int _)⟩
/-- * of ints; one of them below 2 ^ 64, or both not too wide -/
def bMulU : PyData → PyData → PyData → Prop := fun x y z => ∃ i j : Int, x = .int i ∧ y = .int j ∧ (CMul i j ∨ CMulW i j) ∧ z = .int (i * j)
theorem de_mulU (ha : DE E X a fa) (hb : DE E X b fb) : DE E X (.BinOp a .Mult b pos) (dOp bMulU fa fb) := by
  refine de_op (opR_or op_mul op_mulW) ?_ ha hb
  intro F H v w x y z Q g h1 h2 ⟨i, j, e1, e2, hc, e3⟩ hy
  subst e1 e2 e3
  rcases hc with hc | hc
  · exact .inl ⟨i, j, h1.int, h2.int, hc, hy.1 _ (.int _)⟩
  · exact .inr ⟨i, j, h1.int, h2.int, hc, hy.1 _ (.int _)⟩
end

/-! ### defs by name -/
section
variable {P : Program} {w : World} {K : PySem.W.Frag} {mg : Str → Option Value} {base : Heap}
/-- the def st stands at the name x -/
def Def0 (K : PySem.W.Frag) (mg : Str → Option Value) (x : Str) (st : Stmt) (ps : List Str) : Prop := ∃ f fd, Fun K x x st f fd ∧ mg x = some (.ref f) ∧ Binds K fd ps []
/-- the def at the name x keeps the promise S -/
def lenS (n : Nat) (S : DSpec) : DSpec := fun as Q PX => as.length = n ∧ S as Q PX
def Cal (P : Program) (w : World) (K : PySem.W.Frag) (mg : Str → Option Value) (base : Heap) (k : Nat) (x : Str) (ps : List Str) (S : DSpec) : Prop :=
  ∃ f fd, FnG P w K mg base k f fd ps (spD K mg ps.length (lenS ps.length S)) ∧ mg x = some (.ref f) ∧ PySem.W.keepIn K (.ref f) = true ∧ Binds K fd ps []
theorem Cal.up {j k : Nat} {x : Str} {ps : List Str} {S : DSpec} (C : Cal P w K mg base j x ps S) (h : j ≤ k) : Cal P w K mg base k x ps S := by
  obtain ⟨f, fd, G, m⟩ := C
  exact ⟨f, fd, G.up h, m⟩
/-- another promise that follows -/
theorem Cal.imp {k : Nat} {x : Str} {ps : List Str} {S S' : DSpec} (C : Cal P w K mg base k x ps S) (h : ∀ as Q PX, S' as Q PX → S as Q PX) : Cal P w K mg base k x ps S' := by
  obtain ⟨f, fd, G, m⟩ := C
  refine ⟨f, fd, G.imp fun vs H Q E z => ?_, m⟩
  obtain ⟨z1, F, as, bp, P0, PX, z2, z3, z4, z5⟩ := z
  exact ⟨z1, F, as, bp, P0, PX, z2, z3, ⟨z4.1, h _ _ _ z4.2⟩, z5⟩
theorem cal_of {x : Str} {st : Stmt} {N ps : List Str} {k : Nat} {S : DSpec} (D : Def0 K mg x st ps) (Sc : FnScope N ps (defScope st))
    (body : ∀ (f : Addr) (cdv : Value) (A : Around) (outer : List Env) (s : Shared) (H : Hp) (EX : XK) (E : Ent) (as : List Sl) (Q : Sl → Option PyData → Prop) (PX : Exn → Prop),
      Room k (A.deeper (envOfC x (defScope st) s.heap.objs.size f cdv)) → A.guards = some [] → S as Q PX → (noB as = true → RaisesOk K mg E PX EX) →
      ∃ g, DSs E (cxOf (L2.CX P w) P w K mg base N x (defScope st) f cdv A outer s H EX) (defBody st) g ∧ g (endD as Q) (entD N.length as)) :
    Cal P w K mg base (k + 1) x ps S := by
  obtain ⟨f, fd, F, m, b⟩ := D
  exact ⟨f, fd, fnD F Sc fun cdv A outer s H EX E as Q PX hr hg _ hS hx => body f cdv A outer s H EX E as Q PX hr hg hS.2 hx, m, F.kp, b⟩
end
section
variable {X : Cx} {E : Ent} {e : Expr} {es : List Expr} {pos p : Pos} {ha : DTA} {k : Nat} {x : Str} {ps : List Str} {S : DSpec}
/-- a call that raises nothing -/
theorem de_cal {n : Nat} (C : Cal X.prog X.w X.K X.mg X.base k x ps S) (hr : Room k X.A) (hgu : X.A.guards = some []) (hg : Gl X x) (h : DA E X (e :: es) ha) (hdb : (x == ("__debug__" : Str)) = false := by decide)
    (he : starEach (e :: es) X.env = (false, eval e X.env) :: starEach es X.env := by rfl) (hpl : (backTo pos (starEach es X.env)).any (·.1) = false := by rfl) (hn : ps.length = n := by rfl) : DE E X (.Call (.Name x p) (e :: es) [] pos) (dCall (lenS n S) (fun _ => False) ha) := by
  subst hn
  obtain ⟨f, fd, G, m, kp, b⟩ := C
  exact de_callD (EX := E0) (pe_callG G hr hgu hg m kp b .nil passL h hdb he hpl) (fun _ _ _ _ _ _ _ _ z _ => z.elim) fun _ _ _ q => q.1
end
end DL
set_option Elab.async false
set_option linter.all false
set_option autoImplicit false
set_option maxRecDepth 100000
set_option maxHeartbeats 4000000
/-! DLm: the data layer, part thirteen: loops over lists or tuples, whichever; tests. -/
namespace DL
open PySem PySem.Spec PyProof.Rows L2
section
variable {X : Cx} {E : Ent} {e a b c tg : Expr} {es : List Expr} {pos p tpos : Pos} {fa fb fc : DT} {ga : DTF} {ha : DTA} {K : PySem.W.Frag} {F H F' H' : Hp} {st : St} {r r' : DEnv} {elts : List Expr} {kk : Nat}
def iSq (K : PySem.W.Frag) (tl : TE) : TI := fun σ H R => tl σ H fun x H1 => (∃ a, x = .ref a ∧ (∃ xs, SqL K H1 a xs) ∧ R (Itl K a) H1) ∨ ∃ a, x = .ref a ∧ (∃ xs, SqT K H1 a xs) ∧ R (Itt K a) H1
theorem pi_sq {tl : TE} (hl : PE X e tl) : PI X tg e (iSq X.K tl) := by
  constructor
  intro pins s σ H R I h
  refine thn (hl.run pins s σ H _ I h) ?_
  rintro v s1 ⟨x, H1, I1, r1, q1⟩
  have fp : ∀ b ∈ [s1.heap.objs.size], FpOk X pins H1 b := fun b hb => by
    cases List.mem_singleton.mp hb
    exact I1.fpOk (Nat.le_refl _) (I1.hok.fresh (Nat.le_refl _))
  rcases q1 with ⟨a, e, ⟨xs, hq⟩, q⟩ | ⟨a, e, ⟨xs, hq⟩, q⟩
  · subst e
    cases r1
    obtain ⟨its, rv, p, hz⟩ := I1.list hq
    refine wpAny_pyIter_list p.isList ?_
    exact ⟨s1.heap.objs.size, [s1.heap.objs.size], _, _, H1, rfl, I1.kept (t' := s1.toks) fun b o z => Heap.get?_push_of_some _ z, turn_list a _, ⟨_, Heap.get?_push_size _ rfl, rfl, rfl⟩, fp, q⟩
  · subst e
    cases r1
    obtain ⟨its, rv, p, hz⟩ := I1.tuple hq
    refine wpAny_pyIter_tuple (show s1.heap.IsTuple a its.toArray from p) ?_
    exact ⟨s1.heap.objs.size, [s1.heap.objs.size], _, _, H1, rfl, I1.kept (t' := s1.toks) fun b o z => Heap.get?_push_of_some _ z, turn_tuple a _, ⟨_, Heap.get?_push_size _ rfl, rfl, rfl⟩, fp, q⟩
/-- over a list or a tuple that stays -/
def iSeqU (fa : DT) (r : DEnv) (P : List PyData → DEnv → Prop) : Prop := dFz fa r fun s r1 => ∃ xs, (s = .d (.list xs) ∨ s = .d (.tuple xs)) ∧ P xs r1
theorem di_seq (h : DE E X e fa) : PI X tg e (tDI X.K E (iSeqU fa)) :=
  wkI (pi_sq (de_fz h)) fun st H R ⟨F, r, P, R0, p, k⟩ => ⟨F, r, _, R0, p, fun s r1 v F1 H1 q1 A1 ok n => by
    obtain ⟨xs, e, q⟩ := q1
    rcases e with e | e
    · subst e
      cases (show Rp X.K F1 v (.list xs) from ok) with
      | lst h1 h2 => exact .inl ⟨_, rfl, ⟨_, A1.rel.sub.seq h1⟩, k _ _ _ _ _ q A1 (dwalk_list h1 h2)⟩
    · subst e
      cases (show Rp X.K F1 v (.tuple xs) from ok) with
      | tup h1 h2 => exact .inr ⟨_, rfl, ⟨_, A1.rel.sub.tup h1⟩, k _ _ _ _ _ q A1 (dwalk_tup h1 h2)⟩⟩
def iEnumSq (K : PySem.W.Frag) (ta : TA) : TI := fun σ H R => ta σ H fun vs H1 => (∃ a xs, vs = [.ref a] ∧ SqL K H1 a xs ∧ R (Ite K a) H1) ∨ ∃ a xs, vs = [.ref a] ∧ SqT K H1 a xs ∧ R (IteT K a) H1
theorem pi_enumSq {ta : TA} (hg : Gl X "enumerate") (hm : X.mg "enumerate" = none) (ha : PA X [e] ta) (hs : starEach [e] X.env = [(false, eval e X.env)] := by rfl) :
    PI X (.Tuple elts kk tpos) (.Call (.Name "enumerate" p) [e] [] pos) (iEnumSq X.K ta) := by
  constructor
  intro pins s σ H R I h
  refine Call_ (ld_blt I hg hm boot_enumerate (PyProof.Rows.callWith_type1 (thn (ha.run pos pins s σ H _ I h) ?_) hs rfl))
  rintro us s1 ⟨vs, H1, I1, r1, q1⟩
  have fp : ∀ b ∈ [s1.heap.objs.size + 1, s1.heap.objs.size], FpOk X pins H1 b := fun b hb => by
    have hle : s1.heap.objs.size ≤ b := by
      rcases List.mem_cons.mp hb with z | z
      · rw [z]; exact Nat.le_add_right _ _
      · rw [List.mem_singleton.mp z]; exact Nat.le_refl _
    exact I1.fpOk hle (I1.hok.fresh hle)
  rcases q1 with ⟨a, xs, ex, hq, q⟩ | ⟨a, xs, ex, hq, q⟩
  · subst ex
    cases r1 with
    | cons r rr =>
      cases rr
      cases r
      obtain ⟨its, rv, p', hz⟩ := I1.list hq
      refine call_enumerate_list p'.isList fun h' he hit hsz hk => wpAny_pyIter_enum he ?_
      exact ⟨s1.heap.objs.size + 1, [s1.heap.objs.size + 1, s1.heap.objs.size], _, _, H1, rfl, I1.kept (t' := s1.toks) hk, turn_enum a (s1.heap.objs.size + 1) s1.heap.objs.size, ⟨⟨.none, he⟩, hit, Nat.succ_ne_self _⟩, fp, q⟩
  · subst ex
    cases r1 with
    | cons r rr =>
      cases rr
      cases r
      obtain ⟨its, rv, p', hz⟩ := I1.tuple hq
      refine dl_call_enumT (show s1.heap.IsTuple a its.toArray from p') fun h' he hit hk => wpAny_pyIter_enum he ?_
      exact ⟨s1.heap.objs.size + 1, [s1.heap.objs.size + 1, s1.heap.objs.size], _, _, H1, rfl, I1.kept (t' := s1.toks) hk, turn_enumT a (s1.heap.objs.size + 1) s1.heap.objs.size, ⟨⟨.none, he⟩, hit, Nat.succ_ne_self _⟩, fp, q⟩
def iEnumU (fa : DTF) (r : DEnv) (P : List PyData → DEnv → Prop) : Prop := fa r fun ys r1 => ∃ xs, (ys = [.list xs] ∨ ys = [.tuple xs]) ∧ P (enumD xs) r1
theorem di_enum (hg : Gl X "enumerate") (hm : X.mg "enumerate" = none) (h : DF E X [e] ga) (hs : starEach [e] X.env = [(false, eval e X.env)] := by rfl) : PI X (.Tuple elts kk tpos) (.Call (.Name "enumerate" p) [e] [] pos) (tDI X.K E (iEnumU ga)) :=
  wkI (pi_enumSq hg hm h hs) fun st H R ⟨F, r, P, R0, p, k⟩ => ⟨F, r, _, R0, p, fun ys r1 vs F1 H1 q1 A1 ok => by
    obtain ⟨xs, e, q⟩ := q1
    rcases e with e | e
    · subst e
      cases ok with
      | cons h0 t =>
        cases t
        cases h0 with
        | lst h1 h2 =>
          refine .inl ⟨_, _, rfl, A1.rel.sub.seq h1, k _ _ _ _ _ q A1 (dwalk_pair walk_enum (by rw [enumD_len, rps_len h2]) (fun F2 H s g => g.seq (s.seq h1)) fun i u v hi e1 e2 => ?_)⟩
          cases e1
          obtain ⟨x, e3, e4⟩ := rps_at' h2 e2
          exact ⟨_, _, enumD_at e3, .int _, e4⟩
    · subst e
      cases ok with
      | cons h0 t =>
        cases t
        cases h0 with
        | tup h1 h2 =>
          refine .inr ⟨_, _, rfl, A1.rel.sub.tup h1, k _ _ _ _ _ q A1 (dwalk_pair walk_enumT (by rw [enumD_len, rps_len h2]) (fun F2 H s g => g.tup (sameT s h1)) fun i u v hi e1 e2 => ?_)⟩
          cases e1
          obtain ⟨x, e3, e4⟩ := rps_at' h2 e2
          exact ⟨_, _, enumD_at e3, .int _, e4⟩⟩

/-! ### tests that compare -/
theorem dt_of {t : TE} {f : DT} (h : PT X e (tTest t)) (k : ∀ st H Q, tD X.K E f st H Q → t st H Q) : DTe E X e (dTe f) :=
  wkT h fun st H Q ⟨F, r, P, R, p, kk⟩ => k st H _ ⟨F, r, _, R, p, fun s r1 v F1 H1 q1 A1 ok n => by
    obtain ⟨b, e, q⟩ := q1
    subst e
    cases ok
    exact ⟨b, rfl, kk _ _ _ _ q A1⟩⟩
theorem dt_cmp {op : CmpOp} {rr : R2} {B : PyData → PyData → PyData → Prop} (ho : OpR X (compareOp op) rr) (h : OpB X.K rr B) (ha : DE E X a fa) (hb : DE E X b fb) (hm : behindInMarks op b = false) : DTe E X (.Compare a [op] [b] pos) (dTe (dOp B fa fb)) :=
  dt_of (pt_cmpR ho ha hb hm) (op_bin h)
theorem oLt : OpB K (rI0 fun i j => .bl (decide (i < j))) bLt := opB_int0 fun _ _ _ _ => .bl _
theorem oLe : OpB K (rI0 fun i j => .bl (decide (i ≤ j))) bLe := opB_int0 fun _ _ _ _ => .bl _
theorem oGt : OpB K (rI0 fun i j => .bl (decide (j < i))) bGt := opB_int0 fun _ _ _ _ => .bl _
theorem oGe : OpB K (rI0 fun i j => .bl (decide (j ≤ i))) bGe := opB_int0 fun _ _ _ _ => .bl _
theorem chain_main {rr rr' : R2} {B B' : PyData → PyData → PyData → Prop} (h : OpB K rr B) (h' : OpB K rr' B') : ∀ st H Q, tD K E (dChain B B' fa fb fc) st H Q → tChain rr rr' (tD K E fa) (tD K E fb) (tD K E fc) st H Q := by
  rintro st H Q ⟨F, r, P, R, p, k⟩
  refine ⟨F, r, _, R, p, fun s r1 v F1 H1 q1 A1 ok1 n1 => ⟨F1, r1, _, A1.rel, q1, fun t r2 w F2 H2 q2 A2 ok2 n2 => ?_⟩⟩
  obtain ⟨x, y, b, e1, e2, hb, q⟩ := q2
  subst e2
  have fin : ∀ F3 H3, Aft K E F H st r F3 H3 r2 → Rp K F3 w y → ∃ k, V.bl b = .bl k ∧ (if k = true then tD K E fc st H3 (fun w' H4 => rr' w w' H4 Q) else Q (.bl false) H3) := by
    intro F3 H3 A3 oky
    refine ⟨b, rfl, ?_⟩
    cases b with
    | true =>
      rw [if_pos rfl] at q ⊢
      refine ⟨F3, r2, _, A3.rel, q, fun u r3 w' F4 H4 q3 A4 ok3 n3 => ?_⟩
      obtain ⟨y', z, e3, hb', q4⟩ := q3
      exact h' F4 H4 w w' y y' z Q A4.rel.sub (.inl (rpM A4.stp.gf oky)) (A4.rel.read ok3 e3) hb' (yld_of (A3.trans A4) q4 k)
    | false =>
      rw [if_neg Bool.false_ne_true] at q ⊢
      exact k _ _ _ _ _ q A3 (.bl _) trivial
  have A12 := A1.trans A2
  refine h F2 H2 v w x y (.bool b) _ A2.rel.sub (A2.rel.read (ok1.aft A2) e1) (.inl ok2) hb ⟨fun v' hv => ?_, fun p' o v' n hv => ?_⟩
  · cases hv
    exact fin F2 H2 A12 ok2
  · cases hv
    have B1 := A2.rel.new (o := o) n
    exact fin _ _ (A12.trans B1) (rpM B1.stp.gf ok2)
theorem dt_chain {op op' : CmpOp} {rr rr' : R2} {B B' : PyData → PyData → PyData → Prop} (h1 : PT X (.Compare a [op, op'] [b, c] pos) (tTest (tChain rr rr' (tD X.K E fa) (tD X.K E fb) (tD X.K E fc)))) (h : OpB X.K rr B) (h' : OpB X.K rr' B') :
    DTe E X (.Compare a [op, op'] [b, c] pos) (dTe (dChain B B' fa fb fc)) := dt_of h1 (chain_main h h')
theorem Room.u66 {k : Nat} {A : Around} (h : Room k A) : A.units + 66 < cLine := by
  have := h.un
  omega
/-- -e -/
def dNeg (fa : DT) (r : DEnv) (P : Vl → DEnv → Prop) : Prop := fa r fun s r1 => ∃ i : Int, s = .d (.int i) ∧ P (.d (.int (-i))) r1
theorem de_neg (h : DE E X e fa) : DE E X (.UnaryOp .USub e pos) (dNeg fa) := by
  refine wkE (pe_un un_neg h) fun st H Q ⟨F, r, P, R, p, k⟩ => ⟨F, r, _, R, p, fun s r1 v F1 H1 q1 A1 ok n => ?_⟩
  obtain ⟨i, e, q⟩ := q1
  subst e
  cases ok
  exact ⟨i, rfl, k _ _ _ _ _ q A1 (.int _) trivial⟩
end
end DL
set_option Elab.async false
set_option linter.all false
set_option autoImplicit false
set_option maxRecDepth 100000
set_option maxHeartbeats 4000000
/-! DLn: the data layer, part fourteen: the end of a law. -/
namespace DL
open PySem PySem.Spec PyProof.Rows L2
/-- the law's own promise: at each script it hands back True -/
def S_law : DSpec := fun as P _ => ∃ ns : List Int, as = [.d (.list (ns.map .int))] ∧ ns.length ≤ 63 ∧ P (.d (.bool true)) none
theorem law_end {P : Program} {w : World} {K : PySem.W.Frag} {mg mb : Str → Option Value} {k : Nat} {fa a : Addr} {x : Str} {s₁ : Shared} {vs : List Value} {ns : List Int} {fd : FuncData}
    (KX : K.In s₁.heap) (hns : s₁.heap.Ns mainGlobals mg) (hb : s₁.heap.Ns builtinsNs mb) (hbb : ∀ x : Str, x ≠ "__name__" → mb x = bootBuiltins x) (hlim : s₁.heap.NoLimit) (hg : s₁.gens = #[])
    (ha : s₁.heap.get? a = some { cls := .type "list", data := .seq vs.toArray }) (hi : IntsAre vs ns) (hl : ns.length ≤ 63) (hr : Room k callerA)
    (F : ∀ base : Heap, K.In base → base.Ns mainGlobals mg → FnG P w K mg base k fa fd [x] (spD K mg 1 (lenS 1 S_law))) (bind : ∀ (s : Shared) (u : Value), BindsTo s fd ⟨[u], []⟩ [(x, u)]) :
    codeAny (model P w) callerA (.call (.ref fa) ⟨[.ref a], []⟩) (fun r s' => r = .ok (.ret (.bool true)) ∧ OldK s₁.heap s'.heap ∧ s'.os = s₁.os ∧ AllBare s'.gens) s₁ := by
  have rv := vals_ints hi
  have lenV := hi.length
  have core : ∀ H : Hp, (∀ b, H b = none ∨ b = a) → (∀ u, H a = some u → ∃ o, u = .frz o (.lst (ns.map V.int))) → SqL K H a (ns.map V.int) → HOk P w H s₁.heap → (H a ≠ none → K.lookup a = none) →
      codeAny (model P w) callerA (.call (.ref fa) ⟨[.ref a], []⟩) (fun r s' => r = .ok (.ret (.bool true)) ∧ OldK s₁.heap s'.heap ∧ s'.os = s₁.os ∧ AllBare s'.gens) s₁ := by
    intro H hO hF hS ok hK
    have only : ∀ {b : Addr}, H b ≠ none → b = a := fun {b} h => (hO b).elim (fun z => (h z).elim) id
    have ground : ∀ {b : Addr} {o : Obj}, s₁.heap.get? b = some o → H b = none → (hidT s₁.heap H).get? b = some o := fun e n => hidT_get e n
    have dictFree : ∀ {b : Addr} {o : Obj} {es : Array DictEntry} {ep : Nat}, s₁.heap.get? b = some o → o.data = .dict es ep → H b = none := by
      intro b o es ep e d
      rcases hO b with z | z
      · exact z
      · subst z
        rw [ha] at e
        cases e
        have d : Data.seq vs.toArray _ = Data.dict es ep := d
        cases d
    have nsG : ∀ {b : Addr} {m : Str → Option Value}, s₁.heap.Ns b m → (hidT s₁.heap H).Ns b m := by
      intro b m ⟨o, es, ep, e, d, r⟩
      exact ⟨o, es, ep, ground e (dictFree e d), d, r⟩
    have hKb : K.In (hidT s₁.heap H) := by
      intro b o e
      refine ground (KX b o e) ?_
      cases q : H b with
      | none => rfl
      | some u =>
        have hb0 : H b ≠ none := by rw [q]; simp
        have z := only hb0
        subst z
        rw [hK hb0] at e
        cases e
    have hM : Mod K mg (hidT s₁.heap H) := by
      obtain ⟨mc, h1, h2⟩ := hlim
      exact ⟨hKb, nsG hns, ⟨mb, nsG hb, hbb⟩, ⟨mc, nsG h1, h2⟩⟩
    have e0 : Env0 P w K mg (hidT s₁.heap H) callerA [] s₁ H :=
      ⟨rfl, hM, fun b o e => of_hidT e, Nat.le_of_eq (hidT_size _ _), trivial, fun b hb => absurd (show b ∈ ([] : List Addr) from hb) (by simp), ok, .of_eq hg⟩
    have args : ArgsOk K H H [V.ref a] [.d (.list (ns.map .int))] none := by
      refine ⟨rfl, fun i x e => ?_, fun i x e => ?_, fun i j x y e => ?_, fun i x e => ?_, fun p e => nomatch e⟩
      · cases i with
        | zero =>
          simp only [List.getElem?_cons_zero, Option.some.injEq, Sl.d.injEq] at e
          subst e
          exact ⟨_, rfl, .lst hS (rps_ints ns)⟩
        | succ i => simp at e
      · cases i <;> simp at e
      · cases i <;> simp at e
      · cases i <;> simp at e
    have sp : spD K mg 1 (lenS 1 S_law) [V.ref a] H (fun v H' => v = .bl true) (fun _ _ _ => False) := by
      refine ⟨rfl, H, _, none, fun s _ => s = .d (.bool true), fun _ => False, fun b o e => .inl e, args, ⟨rfl, ns, rfl, hl, rfl⟩, fun s cs v F' H' e _ ok => ?_, fun _ _ _ _ _ z => z.elim⟩
      subst e
      cases ok
      rfl
    refine codeAny_mono ((F _ hKb (nsG hns)).go callerA [] s₁ H ⟨[.ref a], []⟩ [.ref a] [.ref a] _ _ hr rfl e0 (bind s₁ (.ref a)) (.cons rfl .nil) sp) ?_
    intro r s' h
    cases r with
    | error e =>
      obtain ⟨_, _, _, _, _, _, _, _, _, _, _, _, z⟩ := h
      exact z.elim
    | ok fl =>
      cases fl with
      | next => exact False.elim h
      | brk => exact False.elim h
      | cont => exact False.elim h
      | ret u =>
        obtain ⟨v, H', os, bare, un, hok', r', q⟩ := h
        have q : v = .bl true := q
        subst q
        have r' : u = Value.bool true := r'
        subst r'
        refine ⟨rfl, OldK.of_keep ?_, os, bare⟩
        intro b o e
        cases q : H b with
        | none => exact un.keep b o e q (fun z => absurd (show b ∈ ([] : List Addr) from z) (by simp)) (by simp)
        | some u =>
          have z := only (b := b) (by rw [q]; simp)
          subst z
          obtain ⟨ob, eu⟩ := hF u q
          subst eu
          obtain ⟨e1, _⟩ := ok b _ q
          obtain ⟨e2, _⟩ := hok' b _ (un.frzs b ob _ q)
          rw [e] at e1
          cases e1
          exact e2
  cases hk : K.lookup a with
  | some o =>
    have e := KX a o hk
    rw [ha] at e
    cases e
    exact core (fun _ => none) (fun _ => .inl rfl) (fun u z => nomatch z) (.inr ⟨_, vs.toArray, _, hk, rfl, rfl, rfl, by rw [List.size_toArray, lenV]; exact Nat.le_trans hl (by decide), by simpa using rv⟩)
      (fun b u z => nomatch z) fun z => absurd rfl z
  | none =>
    let H : Hp := upd (fun _ => none) a (.frz { cls := .type "list", data := .seq vs.toArray } (.lst (ns.map V.int)))
    have hHa : H a = some (.frz { cls := .type "list", data := .seq vs.toArray } (.lst (ns.map V.int))) := upd_same
    have hHb : ∀ b, b ≠ a → H b = none := fun b h => upd_ne h
    refine core H (fun b => ?_) (fun u z => ?_) (.inl (.inr ⟨_, hHa⟩)) (fun b u z => ?_) fun _ => hk
    · by_cases h : b = a
      · exact .inr h
      · exact .inl (hHb b h)
    · rw [hHa] at z
      cases z
      exact ⟨_, rfl⟩
    · by_cases h : b = a
      · subst h
        rw [hHa] at z
        cases z
        exact ⟨ha, by rw [List.length_map]; exact Nat.le_trans hl (by decide), vs, _, rv, ha⟩
      · rw [hHb b h] at z
        cases z
/-- a def as it stands at its object -/
theorem fng_of {P : Program} {w : World} {K : PySem.W.Frag} {mg : Str → Option Value} {base : Heap} {x : Str} {st : Stmt} {f : Addr} {fd : FuncData} {N ps : List Str} {k : Nat} {S : DSpec} (F : Fun K x x st f fd) (Sc : FnScope N ps (defScope st))
    (body : ∀ (f : Addr) (cdv : Value) (A : Around) (outer : List Env) (s : Shared) (H : Hp) (EX : XK) (E : Ent) (as : List Sl) (Q : Sl → Option PyData → Prop) (PX : Exn → Prop),
      Room k (A.deeper (envOfC x (defScope st) s.heap.objs.size f cdv)) → A.guards = some [] → S as Q PX → (noB as = true → RaisesOk K mg E PX EX) →
      ∃ g, DSs E (cxOf (L2.CX P w) P w K mg base N x (defScope st) f cdv A outer s H EX) (defBody st) g ∧ g (endD as Q) (entD N.length as)) :
    FnG P w K mg base (k + 1) f fd ps (spD K mg ps.length (lenS ps.length S)) :=
  fnD F Sc fun cdv A outer s H EX E as Q PX hr hg _ hS hx => body f cdv A outer s H EX E as Q PX hr hg hS.2 hx
theorem walkG {l : PySem.W.OpenLaw} {k : Nat} {q : Program} {loose : List Str} {XP : (Str → Option Value) → Heap → Prop} {YP : World → Heap → Prop} {d : DefRec} {K : Params → PySem.W.Frag} {x : Str}
    (hn : l.most = some 63) (hdf : d.params.defaults = []) (hr : Room k callerA) (hY : ∀ (w : World) (h : Heap), YP w h → (K w.params).In h)
    (F : ∀ (w : World) (mg : Str → Option Value) (fa : Addr) (h : Heap), (K w.params).In h → h.Ns mainGlobals mg → mg d.name = some (.ref fa) →
      ∃ fd : FuncData, (∀ (s : Shared) (u : Value), BindsTo s fd ⟨[u], []⟩ [(x, u)]) ∧
        ∀ base : Heap, (K w.params).In base → base.Ns mainGlobals mg → FnG l.prog w (K w.params) mg base k fa fd [x] (spD (K w.params) mg 1 (lenS 1 S_law))) :
    PySem.W.WalkO q loose XP YP l.row.toRowW d [] (fun f vs => PySem.call f vs) := by
  refine Att.attach_call hn hdf ?_
  intro w s₀ s₁ mg mb fa o pm cd doc a vs ns G Y ho hd hcd hmg hobj hints hlen hg
  have KX := hY w _ Y
  obtain ⟨fd, hb, hF⟩ := F w mg fa _ KX G.T.g hmg
  exact law_end KX G.T.g G.T.b G.T.builtins G.T.nolimit hg hobj hints hlen hr hF hb
end DL
set_option Elab.async false
set_option linter.all false
set_option autoImplicit false
set_option maxRecDepth 100000
set_option maxHeartbeats 4000000
/-! DLo: the data layer, part fifteen: == of texts or data. -/
namespace DL
open PySem PySem.Spec PyProof.Rows L2
section
variable {X : Cx} {E : Ent} {K : PySem.W.Frag} {F H : Hp}
def bEqU (x y z : PyData) : Prop := match x, y with
  | .str s, .str t => z = .bool (decide (s = t))
  | x, y => bEq x y z
def bNeU (x y z : PyData) : Prop := match x, y with
  | .str s, .str t => z = .bool (!decide (s = t))
  | x, y => bNe x y z
abbrev rEqU (K : PySem.W.Frag) : R2 := fun x y H Q => rEqD K x y H Q ∨ rEq x y H Q
abbrev rNeU (K : PySem.W.Frag) : R2 := fun x y H Q => rNeD K x y H Q ∨ rNe x y H Q
theorem op_eqU (hu : X.A.units + 64 < cLine) : OpR X (compareOp .Eq) (rEqU X.K) := opR_or (op_eqD hu) op_eq
theorem op_neU (hu : X.A.units + 64 < cLine) : OpR X (compareOp .NotEq) (rNeU X.K) := opR_or (op_neD hu) op_ne
theorem strV_eq (s t : Str) : decide (V.str s = V.str t) = decide (s = t) := by
  by_cases h : s = t
  · simp [h]
  · simp [h]
theorem opB_eqU : OpB K (rEqU K) bEqU := by
  intro F H v w x y z Q g h1 h2 hb hy
  unfold bEqU at hb
  split at hb
  · subst hb
    rw [h1.str, h2.str]
    refine .inr ⟨rfl, ?_⟩
    rw [strV_eq]
    exact hy.1 _ (.bl _)
  · exact .inl (opB_eq F H v w _ _ z Q g h1 h2 hb hy)
theorem opB_neU : OpB K (rNeU K) bNeU := by
  intro F H v w x y z Q g h1 h2 hb hy
  unfold bNeU at hb
  split at hb
  · subst hb
    rw [h1.str, h2.str]
    refine .inr ⟨rfl, ?_⟩
    rw [strV_eq]
    exact hy.1 _ (.bl _)
  · exact .inl (opB_ne F H v w _ _ z Q g h1 h2 hb hy)
end
end DL
set_option Elab.async false
set_option linter.all false
set_option autoImplicit false
set_option maxRecDepth 100000
set_option maxHeartbeats 4000000
/-! DLv: readings over data, opened. -/
namespace DL
open PySem L2
theorem vls_nil {r : DEnv} {xs : List PyData} : VlsRd r [] xs ↔ xs = [] := ⟨fun h => by cases h; rfl, fun h => h ▸ .nil⟩
theorem vls_cons {r : DEnv} {s : Vl} {ss : List Vl} {xs : List PyData} : VlsRd r (s :: ss) xs ↔ ∃ x ys, rd r s = some x ∧ VlsRd r ss ys ∧ xs = x :: ys :=
  ⟨fun h => by cases h with | cons a b => exact ⟨_, _, a, b, rfl⟩, fun ⟨x, ys, a, b, e⟩ => e ▸ .cons a b⟩
theorem sz_eq : sizeLine = 16777216 := rfl
/-! ### what == asks of data -/
theorem nd_int (i : Int) : noDic (.int i) = true := rfl
theorem nd_bool (i : Bool) : noDic (.bool i) = true := rfl
theorem nd_str (i : Str) : noDic (.str i) = true := rfl
theorem nd_none : noDic .none = true := rfl
theorem nd_tup (xs : List PyData) : noDic (.tuple xs) = noDics xs := by unfold noDic; rfl
theorem nd_list (xs : List PyData) : noDic (.list xs) = noDics xs := by unfold noDic; rfl
theorem nd_nil : noDics [] = true := rfl
theorem nd_cons (x : PyData) (xs : List PyData) : noDics (x :: xs) = (noDic x && noDics xs) := by rw [noDics]
theorem sh_int (i : Int) : SeqAt.shaped (.int i) = true := by simp [SeqAt.shaped, PyData.canLay0, PyData.depth]
theorem sh_bool (i : Bool) : SeqAt.shaped (.bool i) = true := by simp [SeqAt.shaped, PyData.canLay0, PyData.depth]
theorem sh_none : SeqAt.shaped .none = true := by simp [SeqAt.shaped, PyData.canLay0, PyData.depth]
theorem sh_str (i : Str) (h : PyData.strOk i = true) : SeqAt.shaped (.str i) = true := by simp [SeqAt.shaped, PyData.canLay0, PyData.depth, h]
theorem eqv_int (i j : Int) : PyData.eqv (.int i) (.int j) = decide (i = j) := by
  rw [PyData.eqv]
  by_cases h : i = j
  · simp [h]
  · simp [h]
theorem eqv_str (i j : Str) : PyData.eqv (.str i) (.str j) = (i == j) := by rw [PyData.eqv]
theorem at0 (a : PyData) (r : List PyData) : atD (a :: r) 0 = some a := by
  unfold atD ixN
  rw [if_pos (by decide), if_pos (by simp <;> omega)]
  rfl
theorem at1 (a b : PyData) (r : List PyData) : atD (a :: b :: r) 1 = some b := by
  unfold atD ixN
  rw [if_pos (by decide), if_pos (by simp <;> omega)]
  rfl
theorem at2 (a b c : PyData) (r : List PyData) : atD (a :: b :: c :: r) 2 = some c := by
  unfold atD ixN
  rw [if_pos (by decide), if_pos (by simp <;> omega)]
  rfl
theorem at3 (a b c d : PyData) (r : List PyData) : atD (a :: b :: c :: d :: r) 3 = some d := by
  unfold atD ixN
  rw [if_pos (by decide), if_pos (by simp <;> omega)]
  rfl
theorem at4 (a b c d e : PyData) (r : List PyData) : atD (a :: b :: c :: d :: e :: r) 4 = some e := by
  unfold atD ixN
  rw [if_pos (by decide), if_pos (by simp <;> omega)]
  rfl
theorem ix30 : ixN 3 0 = some 0 := by decide
theorem ix31 : ixN 3 1 = some 1 := by decide
theorem ix32 : ixN 3 2 = some 2 := by decide
/-! ### comprehensions and loops -/
/-- one statement, then the rest from what it leaves -/
theorem seq_cut {g1 g2 : DTS} {P : DEnds} {r : DEnv} (R : DEnv → Prop) (h : ∀ X : DEnv → Prop, (∀ r', R r' → X r') → g1 { P with nx := X } r) (k : ∀ r', R r' → g2 P r') : sSeq g1 g2 P r := h (g2 P) k
theorem lc_fm {xs : List PyData} {r1 : DEnv} {dg : DTG} {tt : DTT} {fe : DT} {own : List Nat} {P : Vl → DEnv → Prop} (keep : PyData → Bool) (f : PyData → PyData) (hs : xs.length ≤ sizeLine)
    (h : ∀ x ∈ xs, ∀ (A : PyData → DEnv → Prop) (B : DEnv → Prop), (keep x = true → A (f x) (wipeD r1 own)) → (keep x = false → B (wipeD r1 own)) →
      dg x (wipeD r1 own) fun r2 => tt r2 fun b r3 => if b = true then dFz fe r3 fun s r4 => ∃ y, s = .d y ∧ A y (wipeD r4 own) else B (wipeD r3 own))
    (q : P (.n (.list ((xs.filter keep).map f))) (backD r1 (wipeD r1 own) own)) :
    LcIn xs r1 dg tt fe own P := by
  refine ⟨fun pre acc r' => r' = wipeD r1 own ∧ acc = (pre.filter keep).map f, ⟨rfl, rfl⟩, ?_, ?_⟩
  · rintro pre x post acc r' e ⟨rfl, rfl⟩
    have hx : x ∈ xs := by rw [e]; simp
    have hl : ((pre.filter keep).map f).length < sizeLine := by
      have h1 : (pre.filter keep).length ≤ pre.length := List.length_filter_le _ _
      rw [List.length_map]
      rw [e, List.length_append, List.length_cons] at hs
      omega
    refine h x hx (fun y r => ((pre.filter keep).map f).length < sizeLine ∧ r = wipeD r1 own ∧ (pre.filter keep).map f ++ [y] = ((pre ++ [x]).filter keep).map f) (fun r => r = wipeD r1 own ∧ (pre.filter keep).map f = ((pre ++ [x]).filter keep).map f) (fun k => ⟨hl, rfl, ?_⟩) (fun k => ⟨rfl, ?_⟩)
    · rw [List.filter_append, List.map_append, List.filter_cons, if_pos k]
      rfl
    · rw [List.filter_append, List.map_append, List.filter_cons, k]
      simp
  · rintro acc r' ⟨rfl, rfl⟩
    exact q
theorem lc_map {xs : List PyData} {r1 : DEnv} {dg : DTG} {fe : DT} {own : List Nat} {P : Vl → DEnv → Prop} (f : PyData → PyData) (hs : xs.length ≤ sizeLine)
    (h : ∀ x ∈ xs, ∀ (A : PyData → DEnv → Prop), A (f x) (wipeD r1 own) → dg x (wipeD r1 own) fun r2 => dFz fe r2 fun s r4 => ∃ y, s = .d y ∧ A y (wipeD r4 own))
    (q : P (.n (.list (xs.map f))) (backD r1 (wipeD r1 own) own)) :
    LcIn xs r1 dg dtYes fe own P := by
  refine lc_fm (fun _ => true) f hs (fun x hx A B hA _ => ?_) ?_
  · have := h x hx A (hA rfl)
    exact this
  · rw [List.filter_eq_self.mpr (fun _ _ => rfl)]
    exact q
/-- a loop by the number of its laps -/
theorem for_ix {xs : List PyData} {r1 : DEnv} {tg : DTG} {g : DTS} {P : DEnds} (I : Nat → DEnv → Prop) (i0 : I 0 r1)
    (h : ∀ i x r, xs[i]? = some x → I i r → tg x r fun r2 => g { P with nx := I (i + 1), ct := I (i + 1), bk := P.nx } r2) (k : ∀ r, I xs.length r → P.nx r) : ForIn xs r1 tg g P := by
  refine ⟨fun pre r => I pre.length r, i0, fun pre x post r e i => ?_, k⟩
  have := h pre.length x r (by rw [e]; simp) i
  show tg x r fun r2 => g { P with nx := I (pre ++ [x]).length, ct := I (pre ++ [x]).length, bk := P.nx } r2
  rw [List.length_append]
  exact this
theorem rng_len (lo : Int) (n : Nat) : (rngL lo n).length = n := by unfold rngL; simp
theorem rng_at {lo : Int} {n i : Nat} {x : PyData} (h : (rngL lo n)[i]? = some x) : i < n ∧ x = .int (lo + (i : Nat)) := by
  have hi := (List.getElem?_eq_some_iff.mp h).1
  rw [rng_len] at hi
  refine ⟨hi, ?_⟩
  unfold rngL at h
  rw [List.getElem?_map, List.getElem?_range hi] at h
  exact (Option.some.inj h).symm
theorem enum_at {xs : List PyData} {i : Nat} {y : PyData} (h : (enumD xs)[i]? = some y) : ∃ x, xs[i]? = some x ∧ i < xs.length ∧ y = .tuple [.int (i : Nat), x] := by
  have hi := (List.getElem?_eq_some_iff.mp h).1
  rw [enumD_len] at hi
  have e : xs[i]? = some xs[i] := by simp [hi]
  rw [enumD_at e] at h
  exact ⟨_, e, hi, (Option.some.inj h).symm⟩
theorem for_rng {n : Nat} {r1 : DEnv} {tg : DTG} {g : DTS} {P : DEnds} (I : Nat → DEnv → Prop) (i0 : I 0 r1)
    (h : ∀ i : Nat, ∀ r, i < n → I i r → tg (.int (i : Nat)) r fun r2 => g { P with nx := I (i + 1), ct := I (i + 1), bk := P.nx } r2) (k : ∀ r, I n r → P.nx r) : ForIn (rngL 0 n) r1 tg g P := by
  refine for_ix I i0 (fun i x r e p => ?_) fun r p => k r (by rw [rng_len] at p; exact p)
  obtain ⟨hi, rfl⟩ := rng_at e
  rw [Int.zero_add]
  exact h i r hi p
theorem for_enum {xs : List PyData} {r1 : DEnv} {tg : DTG} {g : DTS} {P : DEnds} (I : Nat → DEnv → Prop) (i0 : I 0 r1)
    (h : ∀ i x r, xs[i]? = some x → i < xs.length → I i r → tg (.tuple [.int (i : Nat), x]) r fun r2 => g { P with nx := I (i + 1), ct := I (i + 1), bk := P.nx } r2) (k : ∀ r, I xs.length r → P.nx r) : ForIn (enumD xs) r1 tg g P := by
  refine for_ix I i0 (fun i x r e p => ?_) fun r p => k r (by rw [enumD_len] at p; exact p)
  obtain ⟨y, ey, hi, rfl⟩ := enum_at e
  exact h i y r ey hi p
/-- a loop whose laps keep what holds -/
theorem for_any {xs : List PyData} {r1 : DEnv} {tg : DTG} {g : DTS} {P : DEnds} (J : DEnv → Prop) (i0 : J r1)
    (h : ∀ x r, x ∈ xs → J r → tg x r fun r2 => g { P with nx := J, ct := J, bk := P.nx } r2) (k : ∀ r, J r → P.nx r) : ForIn xs r1 tg g P :=
  ⟨fun _ r => J r, i0, fun pre x post r e i => h x r (by rw [e]; simp) i, k⟩
theorem rngL_eq (n : Nat) : rngL 0 n = (List.range n).map fun i => .int (i : Nat) := by
  unfold rngL
  simp
end DL
set_option Elab.async false
set_option linter.all false
set_option autoImplicit false
set_option maxRecDepth 100000
set_option maxHeartbeats 4000000
/-! DLw: how long the text of data is. -/
namespace DL
open PySem L2
mutual
/-- no dict, no long int, no text but short plain ones -/
def ib (k : Nat) : PyData → Bool
  | .none => true
  | .bool _ => true
  | .int i => decide (i.natAbs.log2 < k)
  | .str x => PyData.strOk x && decide (10 * x.length + 4 ≤ k)
  | .list xs => ibs k xs
  | .tuple xs => ibs k xs
  | .dict _ => false
def ibs (k : Nat) : List PyData → Bool
  | [] => true
  | x :: xs => ib k x && ibs k xs
end
mutual
def nodes : PyData → Nat
  | .list xs => nodess xs + 1
  | .tuple xs => nodess xs + 1
  | _ => 1
def nodess : List PyData → Nat
  | [] => 0
  | x :: xs => nodes x + nodess xs
end
theorem listText_len (ts : List Str) : (listText ts).length ≤ piled ts + 2 := by
  unfold listText
  rw [strLen_append]
  have e2 : (("]" : String) : Str).length = 1 := rfl
  rw [e2]
  cases ts with
  | nil => show (("[" : String) : Str).length + 1 ≤ _; decide
  | cons t r =>
    show (textFrom 1 (("[" : Str) ++ (("" : String) : Str) ++ t) r).length + 1 ≤ _
    rw [textFrom_length_pos r 1 _ (by decide), strLen_append, strLen_append, piled_cons]
    have e3 : (("[" : String) : Str).length = 1 := rfl
    have e4 : (("" : String) : Str).length = 0 := rfl
    rw [e3, e4]
    omega
theorem tupleText_len (ts : List Str) : (tupleText ts).length ≤ piled ts + 3 := by
  unfold tupleText
  rw [strLen_append, strLen_append]
  have e1 : (("(" : String) : Str).length = 1 := rfl
  have e3 : (((if ts.length == 1 then ",)" else ")" : String) : Str)).length ≤ 2 := by split <;> decide
  rw [e1]
  cases ts with
  | nil =>
    have : (Str.join ((", " : String) : Str) []).length = 0 := by decide
    rw [this]
    omega
  | cons t r =>
    have := join_length_add (t :: r) (by simp)
    omega
mutual
theorem shown_len (k : Nat) (hk : 1 ≤ k) : ∀ x : PyData, ib k x = true → x.shown.length + 2 ≤ nodes x * (k + 6)
  | .none, _ => by
    show (("None" : String) : Str).length + 2 ≤ 1 * (k + 6)
    have : (("None" : String) : Str).length = 4 := rfl
    omega
  | .bool b, _ => by
    cases b with
    | true =>
      show (("True" : String) : Str).length + 2 ≤ 1 * (k + 6)
      have : (("True" : String) : Str).length = 4 := rfl
      omega
    | false =>
      show (("False" : String) : Str).length + 2 ≤ 1 * (k + 6)
      have : (("False" : String) : Str).length = 5 := rfl
      omega
  | .int i, h => by
    unfold ib at h
    have h := of_decide_eq_true h
    show ((toString i : String) : Str).length + 2 ≤ 1 * (k + 6)
    have e : ((toString i : String) : Str).length = (toString i).length := ofString_length _
    have := int_text_length_le (a := i) (k := k) hk h
    omega
  | .str x, h => by
    unfold ib at h
    rw [Bool.and_eq_true] at h
    have h2 := of_decide_eq_true h.2
    show (reprText x).length + 2 ≤ 1 * (k + 6)
    have := StrLaws.reprText_len x (fun c hc => by
      have h1 := h.1
      unfold PyData.strOk at h1
      rw [Array.all_eq_true'] at h1
      have := h1 c (Array.mem_toList_iff.mp hc)
      have := of_decide_eq_true this
      omega)
    omega
  | .list xs, h => by
    unfold ib at h
    show (listText (PyData.shownAll xs)).length + 2 ≤ nodes (.list xs) * (k + 6)
    unfold nodes
    have h1 := shown_lens k hk xs h
    have h2 := listText_len (PyData.shownAll xs)
    rw [Nat.add_mul]
    omega
  | .tuple xs, h => by
    unfold ib at h
    show (tupleText (PyData.shownAll xs)).length + 2 ≤ nodes (.tuple xs) * (k + 6)
    unfold nodes
    have h1 := shown_lens k hk xs h
    have h2 := tupleText_len (PyData.shownAll xs)
    rw [Nat.add_mul]
    omega
  | .dict _, h => by unfold ib at h; cases h
theorem shown_lens (k : Nat) (hk : 1 ≤ k) : ∀ xs : List PyData, ibs k xs = true → piled (PyData.shownAll xs) ≤ nodess xs * (k + 6)
  | [], _ => by show piled [] ≤ _; rw [piled_nil]; omega
  | x :: xs, h => by
    unfold ibs at h
    rw [Bool.and_eq_true] at h
    show piled (x.shown :: PyData.shownAll xs) ≤ nodess (x :: xs) * (k + 6)
    rw [piled_cons]
    unfold nodess
    have h1 := shown_len k hk x h.1
    have h2 := shown_lens k hk xs h.2
    rw [Nat.add_mul]
    omega
end
mutual
theorem ib_nd (k : Nat) : ∀ x : PyData, ib k x = true → noDic x = true
  | .none, _ => rfl
  | .bool _, _ => rfl
  | .int _, _ => rfl
  | .str _, _ => rfl
  | .list xs, h => by unfold ib at h; unfold noDic; exact ibs_nd k xs h
  | .tuple xs, h => by unfold ib at h; unfold noDic; exact ibs_nd k xs h
  | .dict _, h => by unfold ib at h; cases h
theorem ibs_nd (k : Nat) : ∀ xs : List PyData, ibs k xs = true → noDics xs = true
  | [], _ => rfl
  | x :: xs, h => by
    unfold ibs at h
    rw [Bool.and_eq_true] at h
    unfold noDics
    rw [ib_nd k x h.1, ibs_nd k xs h.2]
    rfl
end
mutual
theorem ib_sh (k : Nat) (hk : k ≤ 1920) : ∀ x : PyData, ib k x = true → x.showable = true
  | .none, _ => by simp [PyData.showable]
  | .bool _, _ => by simp [PyData.showable]
  | .int i, h => by
    unfold ib at h
    have h := of_decide_eq_true h
    unfold PyData.showable
    exact decide_eq_true (by omega)
  | .str _, _ => by simp [PyData.showable]
  | .list xs, h => by unfold ib at h; unfold PyData.showable; exact ibs_sh k hk xs h
  | .tuple xs, h => by unfold ib at h; unfold PyData.showable; exact ibs_sh k hk xs h
  | .dict _, h => by unfold ib at h; cases h
theorem ibs_sh (k : Nat) (hk : k ≤ 1920) : ∀ xs : List PyData, ibs k xs = true → PyData.showableAll xs = true
  | [], _ => by simp [PyData.showableAll]
  | x :: xs, h => by
    unfold ibs at h
    rw [Bool.and_eq_true] at h
    unfold PyData.showableAll
    rw [ib_sh k hk x h.1, ibs_sh k hk xs h.2]
    rfl
end
mutual
theorem ib_cl (k : Nat) : ∀ x : PyData, ib k x = true → x.canLay0 = true
  | .none, _ => by simp [PyData.canLay0]
  | .bool _, _ => by simp [PyData.canLay0]
  | .int _, _ => by simp [PyData.canLay0]
  | .str _, h => by
    unfold ib at h
    rw [Bool.and_eq_true] at h
    unfold PyData.canLay0
    exact h.1
  | .list xs, h => by unfold ib at h; unfold PyData.canLay0; exact ibs_cl k xs h
  | .tuple xs, h => by unfold ib at h; unfold PyData.canLay0; exact ibs_cl k xs h
  | .dict _, h => by unfold ib at h; cases h
theorem ibs_cl (k : Nat) : ∀ xs : List PyData, ibs k xs = true → PyData.canLayAll0 xs = true
  | [], _ => by simp [PyData.canLayAll0]
  | x :: xs, h => by
    unfold ibs at h
    rw [Bool.and_eq_true] at h
    unfold PyData.canLayAll0
    rw [ib_cl k x h.1, ibs_cl k xs h.2]
    rfl
end
theorem okR_of (k : Nat) {x : PyData} (h : ib k x = true) (hd : x.depth ≤ 64) (hn : nodes x * (k + 6) ≤ 16777216) (hk : 1 ≤ k := by decide) (hk2 : k ≤ 1920 := by decide) : OkR x :=
  ⟨ib_nd k x h, ib_sh k hk2 x h, hd, by have := shown_len k hk x h; rw [sz_eq]; omega⟩
theorem shaped_of (k : Nat) {x : PyData} (h : ib k x = true) (hd : x.depth ≤ 64) : SeqAt.shaped x = true := by
  unfold SeqAt.shaped
  rw [ib_cl k x h, decide_eq_true hd]
  rfl
/-! ### the size of lists that are maps -/
theorem ibs_map {α : Type} (k : Nat) (f : α → PyData) : ∀ {xs : List α}, (∀ x ∈ xs, ib k (f x) = true) → ibs k (xs.map f) = true
  | [], _ => rfl
  | x :: xs, h => by
    rw [List.map_cons]
    unfold ibs
    rw [h x List.mem_cons_self, ibs_map k f fun y hy => h y (List.mem_cons_of_mem _ hy)]
    rfl
theorem nodess_map {α : Type} (n : Nat) (f : α → PyData) : ∀ {xs : List α}, (∀ x ∈ xs, nodes (f x) ≤ n) → nodess (xs.map f) ≤ xs.length * n
  | [], _ => by show 0 ≤ _; omega
  | x :: xs, h => by
    rw [List.map_cons]
    unfold nodess
    have h1 := h x List.mem_cons_self
    have h2 := nodess_map n f (xs := xs) fun y hy => h y (List.mem_cons_of_mem _ hy)
    rw [List.length_cons, Nat.add_mul]
    omega
theorem depths_map {α : Type} (n : Nat) (f : α → PyData) : ∀ {xs : List α}, (∀ x ∈ xs, (f x).depth ≤ n) → PyData.depthAll (xs.map f) ≤ n
  | [], _ => by simp [PyData.depthAll]
  | x :: xs, h => by
    rw [List.map_cons]
    unfold PyData.depthAll
    have h1 := h x List.mem_cons_self
    have h2 := depths_map n f (xs := xs) fun y hy => h y (List.mem_cons_of_mem _ hy)
    omega
theorem log2_lt {i : Int} {k : Nat} (h : i.natAbs < 2 ^ k) (hk : 1 ≤ k) : i.natAbs.log2 < k := by
  by_cases h0 : i.natAbs = 0
  · rw [h0]
    have : Nat.log2 0 = 0 := by decide
    omega
  · exact (Nat.log2_lt h0).mpr h
theorem ib_int {i : Int} (h : -(2 ^ 63) < i ∧ i < 2 ^ 63) : ib 64 (.int i) = true := by
  unfold ib
  exact decide_eq_true (log2_lt (by omega) (by decide))
theorem dp_int (i : Int) : (PyData.int i).depth = 0 := by simp [PyData.depth]
theorem dp_bool (i : Bool) : (PyData.bool i).depth = 0 := by simp [PyData.depth]
theorem dp_none : PyData.none.depth = 0 := by simp [PyData.depth]
theorem dp_str (i : Str) : (PyData.str i).depth = 0 := by simp [PyData.depth]
theorem dp_list (xs : List PyData) : (PyData.list xs).depth = PyData.depthAll xs + 1 := by rw [PyData.depth]
theorem dp_tup (xs : List PyData) : (PyData.tuple xs).depth = PyData.depthAll xs + 1 := by rw [PyData.depth]
theorem dp_nil : PyData.depthAll [] = 0 := by simp [PyData.depthAll]
theorem dp_cons (x : PyData) (xs : List PyData) : PyData.depthAll (x :: xs) = max x.depth (PyData.depthAll xs) := by rw [PyData.depthAll]
theorem nodes_int (i : Int) : nodes (.int i) = 1 := rfl
theorem nodes_list (xs : List PyData) : nodes (.list xs) = nodess xs + 1 := by rw [nodes]
theorem nodes_tup (xs : List PyData) : nodes (.tuple xs) = nodess xs + 1 := by rw [nodes]
theorem nodes_nil : nodess [] = 0 := rfl
theorem nodes_cons (x : PyData) (xs : List PyData) : nodess (x :: xs) = nodes x + nodess xs := by rw [nodess]
theorem ib_list (k : Nat) (xs : List PyData) : ib k (.list xs) = ibs k xs := by rw [ib]
theorem ib_tup (k : Nat) (xs : List PyData) : ib k (.tuple xs) = ibs k xs := by rw [ib]
theorem ibs_nil (k : Nat) : ibs k [] = true := rfl
theorem ibs_cons (k : Nat) (x : PyData) (xs : List PyData) : ibs k (x :: xs) = (ib k x && ibs k xs) := by rw [ibs]
end DL
set_option Elab.async false
set_option linter.all false
set_option autoImplicit false
set_option maxRecDepth 100000
set_option maxHeartbeats 4000000
namespace DL
open PySem PySem.Spec PyProof.Rows L2
def topS (i : Nat) : Stmt := PySem.Challenge.pw_weftmill_k30_places_of_the_yarn.main.body.getD i (.Pass ⟨0, 0, 0, 0⟩)
section
variable {P : Program} {w : World} {K : PySem.W.Frag} {mg : Str → Option Value} {base : Heap}
abbrev st_is_whole : Stmt := topS 5
theorem sc_is_whole : FnScope ["thing"] ["thing"] (defScope st_is_whole) := ⟨rfl, rfl, rfl, by decide +kernel, rfl, by decide +kernel, by decide +kernel⟩
def g_is_whole : DTS :=
    (sRet (dAnd (dIsi isIntD (dVar 0)) (dNot (dIsi isBoolD (dVar 0)))))
theorem d_is_whole (n_isinstance : mg "isinstance" = none) (n_int : mg "int" = none) (n_bool : mg "bool" = none) {f : Addr} {cdv : Value} {A : Around} {outer : List Env} {s : Shared} {H : Hp} {EX : XK} {E : Ent} (hr : Room 0 (A.deeper (envOfC "is_whole" (defScope st_is_whole) s.heap.objs.size f cdv))) (hg : A.guards = some []) :
    DSs E (cxOf (L2.CX P w) P w K mg base ["thing"] "is_whole" (defScope st_is_whole) f cdv A outer s H EX) (defBody st_is_whole) (g_is_whole) :=
    (dss_one (ds_ret (de_and (de_isi kit_int (by rfl) n_isinstance (de_var (pv 0)) (pe_bty (by rfl) n_int (by decide +kernel))) (de_one (de_not (de_isi kit_bool (by rfl) n_isinstance (de_var (pv 0)) (pe_bty (by rfl) n_bool (by decide +kernel))))))))
theorem c_is_whole (D : Def0 K mg "is_whole" st_is_whole ["thing"]) (n_isinstance : mg "isinstance" = none) (n_int : mg "int" = none) (n_bool : mg "bool" = none) {S : DSpec} (vc : ∀ as Q PX, S as Q PX → g_is_whole (endD as Q) (entD 1 as)) :
    Cal P w K mg base 1 "is_whole" ["thing"] S :=
  cal_of D sc_is_whole fun f cdv A outer s H EX E as Q PX hr hg hS _ => ⟨_, d_is_whole n_isinstance n_int n_bool hr hg, vc as Q PX hS⟩

abbrev st_is_within : Stmt := topS 6
theorem sc_is_within : FnScope ["thing", "least", "most"] ["thing", "least", "most"] (defScope st_is_within) := ⟨rfl, rfl, rfl, by decide +kernel, rfl, by decide +kernel, by decide +kernel⟩
def g_is_within (S_is_whole : DSpec) : DTS :=
    (sRet (dAnd (dCall (lenS 1 S_is_whole) (fun _ => False) (aCons (dFz (dVar 0)) aNil)) (dChain bLe bLe (dVar 1) (dVar 0) (dVar 2))))
theorem d_is_within {S_is_whole : DSpec} (C_is_whole : Cal P w K mg base 1 "is_whole" ["thing"] S_is_whole) {f : Addr} {cdv : Value} {A : Around} {outer : List Env} {s : Shared} {H : Hp} {EX : XK} {E : Ent} (hr : Room 1 (A.deeper (envOfC "is_within" (defScope st_is_within) s.heap.objs.size f cdv))) (hg : A.guards = some []) :
    DSs E (cxOf (L2.CX P w) P w K mg base ["thing", "least", "most"] "is_within" (defScope st_is_within) f cdv A outer s H EX) (defBody st_is_within) (g_is_within S_is_whole) :=
    (dss_one (ds_ret (de_and (de_cal C_is_whole (hr.mono (by decide)) hg (by rfl) (da_cons (de_fz (de_var (pv 0))) da_nil)) (de_one (de_chain (pe_chain op_le op_le (de_var (pv 1)) (de_var (pv 0)) (de_var (pv 2))) oLe oLe)))))
theorem c_is_within (D : Def0 K mg "is_within" st_is_within ["thing", "least", "most"]) {S_is_whole : DSpec} (C_is_whole : Cal P w K mg base 1 "is_whole" ["thing"] S_is_whole) {S : DSpec} (vc : ∀ as Q PX, S as Q PX → g_is_within S_is_whole (endD as Q) (entD 3 as)) :
    Cal P w K mg base 2 "is_within" ["thing", "least", "most"] S :=
  cal_of D sc_is_within fun f cdv A outer s H EX E as Q PX hr hg hS _ => ⟨_, d_is_within C_is_whole hr hg, vc as Q PX hS⟩

abbrev st_is_long : Stmt := topS 7
theorem sc_is_long : FnScope ["thing", "least", "most"] ["thing", "least", "most"] (defScope st_is_long) := ⟨rfl, rfl, rfl, by decide +kernel, rfl, by decide +kernel, by decide +kernel⟩
def g_is_long : DTS :=
    (sRet (dAnd (dIsi isTupD (dVar 0)) (dChain bLe bLe (dVar 1) (dB bLen (aCons (dVar 0) aNil)) (dVar 2))))
theorem d_is_long (n_isinstance : mg "isinstance" = none) (n_tuple : mg "tuple" = none) (n_len : mg "len" = none) {f : Addr} {cdv : Value} {A : Around} {outer : List Env} {s : Shared} {H : Hp} {EX : XK} {E : Ent} (hr : Room 0 (A.deeper (envOfC "is_long" (defScope st_is_long) s.heap.objs.size f cdv))) (hg : A.guards = some []) :
    DSs E (cxOf (L2.CX P w) P w K mg base ["thing", "least", "most"] "is_long" (defScope st_is_long) f cdv A outer s H EX) (defBody st_is_long) (g_is_long) :=
    (dss_one (ds_ret (de_and (de_isi kit_tup (by rfl) n_isinstance (de_var (pv 0)) (pe_bty (by rfl) n_tuple (by decide +kernel))) (de_one (de_chain (pe_chain op_le op_le (de_var (pv 1)) (de_len (by rfl) n_len (da_cons (de_var (pv 0)) da_nil)) (de_var (pv 2))) oLe oLe)))))
theorem c_is_long (D : Def0 K mg "is_long" st_is_long ["thing", "least", "most"]) (n_isinstance : mg "isinstance" = none) (n_tuple : mg "tuple" = none) (n_len : mg "len" = none) {S : DSpec} (vc : ∀ as Q PX, S as Q PX → g_is_long (endD as Q) (entD 3 as)) :
    Cal P w K mg base 1 "is_long" ["thing", "least", "most"] S :=
  cal_of D sc_is_long fun f cdv A outer s H EX E as Q PX hr hg hS _ => ⟨_, d_is_long n_isinstance n_tuple n_len hr hg, vc as Q PX hS⟩

abbrev st_is_weave : Stmt := topS 12
theorem sc_is_weave : FnScope ["thing", "many"] ["thing"] (defScope st_is_weave) := ⟨rfl, rfl, rfl, by decide +kernel, rfl, by decide +kernel, by decide +kernel⟩
def g_is_weave (S_is_long S_is_within : DSpec) : DTS :=
    (sSeq (sIf (dtOr (dtNot (dTe (dCall (lenS 3 S_is_long) (fun _ => False) (aCons (dFz (dVar 0)) (aCons (dFz (dC (.int 2))) (aCons (dFz (dC (.int 2))) aNil)))))) (dtOr (dtNot (dTe (dCall (lenS 3 S_is_within) (fun _ => False) (aCons (dFz (dOp bIx (dVar 0) (dC (.int 0)))) (aCons (dFz (dC (.int 1))) (aCons (dFz (dC (.int 12))) aNil)))))) (dtNot (dTe (dCall (lenS 3 S_is_long) (fun _ => False) (aCons (dFz (dOp bIx (dVar 0) (dC (.int 1)))) (aCons (dFz (dC (.int 1))) (aCons (dFz (dC (.int 6))) aNil))))))))
    (sRet (dC (.bool false)))
    sNext)
    (sRet (dB bAll (aCons (dFz (dLc (iSeqU (dOp bIx (dVar 0) (dC (.int 1)))) (hOwn 1) dtYes (dCall (lenS 3 S_is_within) (fun _ => False) (aCons (dFz (dVar 1)) (aCons (dFz (dC (.int 1))) (aCons (dFz (dC (.int 60))) aNil)))) [1])) aNil))))
theorem d_is_weave (n_all : mg "all" = none) {t_MOST_ENDS : Tok} (k_MOST_ENDS : mg "MOST_ENDS" = some (.int 12 t_MOST_ENDS)) {t_MOST_BOBBINS : Tok} (k_MOST_BOBBINS : mg "MOST_BOBBINS" = some (.int 6 t_MOST_BOBBINS)) {t_MOST_YARN : Tok} (k_MOST_YARN : mg "MOST_YARN" = some (.int 60 t_MOST_YARN)) {S_is_long : DSpec} (C_is_long : Cal P w K mg base 1 "is_long" ["thing", "least", "most"] S_is_long) {S_is_within : DSpec} (C_is_within : Cal P w K mg base 2 "is_within" ["thing", "least", "most"] S_is_within) {f : Addr} {cdv : Value} {A : Around} {outer : List Env} {s : Shared} {H : Hp} {EX : XK} {E : Ent} (hr : Room 2 (A.deeper (envOfC "is_weave" (defScope st_is_weave) s.heap.objs.size f cdv))) (hg : A.guards = some []) :
    DSs E (cxOf (L2.CX P w) P w K mg base ["thing", "many"] "is_weave" (defScope st_is_weave) f cdv A outer s H EX) (defBody st_is_weave) (g_is_weave S_is_long S_is_within) :=
    (dss_cons (ds_if (dt_w (dw_or (dt_not (dt_val (pt_val (de_cal C_is_long (hr.mono (by decide)) hg (by rfl) (da_cons (de_fz (de_var (pv 0))) (da_cons (de_fz de_int) (da_cons (de_fz de_int) da_nil))))))) (dw_or (dt_not (dt_val (pt_val (de_cal C_is_within (hr.mono (by decide)) hg (by rfl) (da_cons (de_fz (de_ix (de_var (pv 0)) de_int)) (da_cons (de_fz de_int) (da_cons (de_fz (de_c (pe_glob (v := .int 12) rfl k_MOST_ENDS ⟨_, rfl⟩) fun _ => .int _)) da_nil))))))) (dw_or1 (dt_not (dt_val (pt_val (de_cal C_is_long (hr.mono (by decide)) hg (by rfl) (da_cons (de_fz (de_ix (de_var (pv 0)) de_int)) (da_cons (de_fz de_int) (da_cons (de_fz (de_c (pe_glob (v := .int 6) rfl k_MOST_BOBBINS ⟨_, rfl⟩) fun _ => .int _)) da_nil)))))))))))
    (dss_one (ds_ret de_bl))
    dss_nil)
    (dss_one (ds_ret (de_all rfl (by rfl) n_all (da_cons (de_fz (de_lc rfl sc_is_weave.nd (di_seq (de_ix (de_var (pv 0)) de_int)) (blkOk_by (own := [("many", 1)]) (by kernel_rfl)) (ct_name (by decide)) (fun _ _ _ _ _ => (pg_name (i := 1) sc_is_weave.nd rfl (Or.inl rfl))) (fun _ _ _ _ _ => dpts_nil) (fun _ _ _ _ _ => (de_cal C_is_within (hr.mono (by decide)) hg (by rfl) (da_cons (de_fz (de_var (pv 1))) (da_cons (de_fz de_int) (da_cons (de_fz (de_c (pe_glob (v := .int 60) rfl k_MOST_YARN ⟨_, rfl⟩) fun _ => .int _)) da_nil))))))) da_nil)))))
theorem c_is_weave (D : Def0 K mg "is_weave" st_is_weave ["thing"]) (n_all : mg "all" = none) {t_MOST_ENDS : Tok} (k_MOST_ENDS : mg "MOST_ENDS" = some (.int 12 t_MOST_ENDS)) {t_MOST_BOBBINS : Tok} (k_MOST_BOBBINS : mg "MOST_BOBBINS" = some (.int 6 t_MOST_BOBBINS)) {t_MOST_YARN : Tok} (k_MOST_YARN : mg "MOST_YARN" = some (.int 60 t_MOST_YARN)) {S_is_long : DSpec} (C_is_long : Cal P w K mg base 1 "is_long" ["thing", "least", "most"] S_is_long) {S_is_within : DSpec} (C_is_within : Cal P w K mg base 2 "is_within" ["thing", "least", "most"] S_is_within) {S : DSpec} (vc : ∀ as Q PX, S as Q PX → g_is_weave S_is_long S_is_within (endD as Q) (entD 2 as)) :
    Cal P w K mg base 3 "is_weave" ["thing"] S :=
  cal_of D sc_is_weave fun f cdv A outer s H EX E as Q PX hr hg hS _ => ⟨_, d_is_weave n_all k_MOST_ENDS k_MOST_BOBBINS k_MOST_YARN C_is_long C_is_within hr hg, vc as Q PX hS⟩

abbrev st_need_weave : Stmt := topS 13
theorem sc_need_weave : FnScope ["thing"] ["thing"] (defScope st_need_weave) := ⟨rfl, rfl, rfl, by decide +kernel, rfl, by decide +kernel, by decide +kernel⟩
def g_need_weave (S_is_weave : DSpec) : DTS :=
    (sIf (dtNot (dTe (dCall (lenS 1 S_is_weave) (fun _ => False) (aCons (dFz (dVar 0)) aNil))))
    sNever
    sNext)
theorem d_need_weave {S_is_weave : DSpec} (C_is_weave : Cal P w K mg base 3 "is_weave" ["thing"] S_is_weave) {f : Addr} {cdv : Value} {A : Around} {outer : List Env} {s : Shared} {H : Hp} {EX : XK} {E : Ent} (hr : Room 3 (A.deeper (envOfC "need_weave" (defScope st_need_weave) s.heap.objs.size f cdv))) (hg : A.guards = some []) :
    DSs E (cxOf (L2.CX P w) P w K mg base ["thing"] "need_weave" (defScope st_need_weave) f cdv A outer s H EX) (defBody st_need_weave) (g_need_weave S_is_weave) :=
    (dss_one (ds_if (dt_not (dt_val (pt_val (de_cal C_is_weave (hr.mono (by decide)) hg (by rfl) (da_cons (de_fz (de_var (pv 0))) da_nil)))))
    (dss_one ds_never)
    dss_nil))
theorem c_need_weave (D : Def0 K mg "need_weave" st_need_weave ["thing"]) {S_is_weave : DSpec} (C_is_weave : Cal P w K mg base 3 "is_weave" ["thing"] S_is_weave) {S : DSpec} (vc : ∀ as Q PX, S as Q PX → g_need_weave S_is_weave (endD as Q) (entD 1 as)) :
    Cal P w K mg base 4 "need_weave" ["thing"] S :=
  cal_of D sc_need_weave fun f cdv A outer s H EX E as Q PX hr hg hS _ => ⟨_, d_need_weave C_is_weave hr hg, vc as Q PX hS⟩

abbrev st_many_places : Stmt := topS 14
theorem sc_many_places : FnScope ["weave"] ["weave"] (defScope st_many_places) := ⟨rfl, rfl, rfl, by decide +kernel, rfl, by decide +kernel, by decide +kernel⟩
def g_many_places : DTS :=
    (sRet (dB bSum (aCons (dFz (dOp bIx (dVar 0) (dC (.int 1)))) aNil)))
theorem d_many_places (n_sum : mg "sum" = none) {f : Addr} {cdv : Value} {A : Around} {outer : List Env} {s : Shared} {H : Hp} {EX : XK} {E : Ent} (hr : Room 0 (A.deeper (envOfC "many_places" (defScope st_many_places) s.heap.objs.size f cdv))) (hg : A.guards = some []) :
    DSs E (cxOf (L2.CX P w) P w K mg base ["weave"] "many_places" (defScope st_many_places) f cdv A outer s H EX) (defBody st_many_places) (g_many_places) :=
    (dss_one (ds_ret (de_sum rfl (by rfl) n_sum (da_cons (de_fz (de_ix (de_var (pv 0)) de_int)) da_nil))))
theorem c_many_places (D : Def0 K mg "many_places" st_many_places ["weave"]) (n_sum : mg "sum" = none) {S : DSpec} (vc : ∀ as Q PX, S as Q PX → g_many_places (endD as Q) (entD 1 as)) :
    Cal P w K mg base 1 "many_places" ["weave"] S :=
  cal_of D sc_many_places fun f cdv A outer s H EX E as Q PX hr hg hS _ => ⟨_, d_many_places n_sum hr hg, vc as Q PX hS⟩

abbrev st_need_place : Stmt := topS 15
theorem sc_need_place : FnScope ["weave", "thing"] ["weave", "thing"] (defScope st_need_place) := ⟨rfl, rfl, rfl, by decide +kernel, rfl, by decide +kernel, by decide +kernel⟩
def g_need_place (S_need_weave S_is_within S_many_places : DSpec) : DTS :=
    (sSeq (sDrop (dCall (lenS 1 S_need_weave) (fun _ => False) (aCons (dFz (dVar 0)) aNil)))
    (sIf (dtNot (dTe (dCall (lenS 3 S_is_within) (fun _ => False) (aCons (dFz (dVar 1)) (aCons (dFz (dC (.int 0))) (aCons (dFz (dOp bSub (dCall (lenS 1 S_many_places) (fun _ => False) (aCons (dFz (dVar 0)) aNil)) (dC (.int 1)))) aNil))))))
    sNever
    sNext))
theorem d_need_place {S_need_weave : DSpec} (C_need_weave : Cal P w K mg base 4 "need_weave" ["thing"] S_need_weave) {S_is_within : DSpec} (C_is_within : Cal P w K mg base 2 "is_within" ["thing", "least", "most"] S_is_within) {S_many_places : DSpec} (C_many_places : Cal P w K mg base 1 "many_places" ["weave"] S_many_places) {f : Addr} {cdv : Value} {A : Around} {outer : List Env} {s : Shared} {H : Hp} {EX : XK} {E : Ent} (hr : Room 4 (A.deeper (envOfC "need_place" (defScope st_need_place) s.heap.objs.size f cdv))) (hg : A.guards = some []) :
    DSs E (cxOf (L2.CX P w) P w K mg base ["weave", "thing"] "need_place" (defScope st_need_place) f cdv A outer s H EX) (defBody st_need_place) (g_need_place S_need_weave S_is_within S_many_places) :=
    (dss_cons (ds_expr (de_cal C_need_weave (hr.mono (by decide)) hg (by rfl) (da_cons (de_fz (de_var (pv 0))) da_nil)))
    (dss_one (ds_if (dt_not (dt_val (pt_val (de_cal C_is_within (hr.mono (by decide)) hg (by rfl) (da_cons (de_fz (de_var (pv 1))) (da_cons (de_fz de_int) (da_cons (de_fz (de_sub (de_cal C_many_places (hr.mono (by decide)) hg (by rfl) (da_cons (de_fz (de_var (pv 0))) da_nil)) de_int)) da_nil)))))))
    (dss_one ds_never)
    dss_nil)))
theorem c_need_place (D : Def0 K mg "need_place" st_need_place ["weave", "thing"]) {S_need_weave : DSpec} (C_need_weave : Cal P w K mg base 4 "need_weave" ["thing"] S_need_weave) {S_is_within : DSpec} (C_is_within : Cal P w K mg base 2 "is_within" ["thing", "least", "most"] S_is_within) {S_many_places : DSpec} (C_many_places : Cal P w K mg base 1 "many_places" ["weave"] S_many_places) {S : DSpec} (vc : ∀ as Q PX, S as Q PX → g_need_place S_need_weave S_is_within S_many_places (endD as Q) (entD 2 as)) :
    Cal P w K mg base 5 "need_place" ["weave", "thing"] S :=
  cal_of D sc_need_place fun f cdv A outer s H EX E as Q PX hr hg hS _ => ⟨_, d_need_place C_need_weave C_is_within C_many_places hr hg, vc as Q PX hS⟩

abbrev st_lies_by : Stmt := topS 16
theorem sc_lies_by : FnScope ["width", "place", "pick", "along"] ["width", "place"] (defScope st_lies_by) := ⟨rfl, rfl, rfl, by decide +kernel, rfl, by decide +kernel, by decide +kernel⟩
def g_lies_by : DTS :=
    (sSeq (sAsg (dB bDivmod (aCons (dVar 1) (aCons (dVar 0) aNil))) (hTup 2 (hCons (hName 2) (hCons (hName 3) hNil))))
    (sRet (dTup (fCons (dVar 2) (fCons (dIf (dTe (dOp bEqU (dOp bModP (dVar 2) (dC (.int 2))) (dC (.int 0)))) (dVar 3) (dOp bSub (dOp bSub (dVar 0) (dC (.int 1))) (dVar 3))) fNil)))))
theorem d_lies_by (n_divmod : mg "divmod" = none) {f : Addr} {cdv : Value} {A : Around} {outer : List Env} {s : Shared} {H : Hp} {EX : XK} {E : Ent} (hr : Room 0 (A.deeper (envOfC "lies_by" (defScope st_lies_by) s.heap.objs.size f cdv))) (hg : A.guards = some []) :
    DSs E (cxOf (L2.CX P w) P w K mg base ["width", "place", "pick", "along"] "lies_by" (defScope st_lies_by) f cdv A outer s H EX) (defBody st_lies_by) (g_lies_by) :=
    (dss_cons (ds_asg (ps_asg (de_fz (de_divmod (by rfl) n_divmod (da_cons (de_var (pv 1)) (da_cons (de_var (pv 0)) da_nil)))) (dg_tup (pg_tup rfl (dgs_cons (dg_name (pg_name (i := 2) sc_lies_by.nd rfl (Or.inl rfl))) (dgs_cons (dg_name (pg_name (i := 3) sc_lies_by.nd rfl (Or.inl rfl))) dgs_nil))))))
    (dss_one (ds_ret (de_tup (df_cons (de_var (pv 2)) (df_cons (de_if (dt_cmp (op_eqU hr.units) opB_eqU (de_modP (de_var (pv 2)) de_int) de_int (nomark _)) (de_var (pv 3)) (de_sub (de_sub (de_var (pv 0)) de_int) (de_var (pv 3)))) df_nil))))))
theorem c_lies_by (D : Def0 K mg "lies_by" st_lies_by ["width", "place"]) (n_divmod : mg "divmod" = none) {S : DSpec} (vc : ∀ as Q PX, S as Q PX → g_lies_by (endD as Q) (entD 4 as)) :
    Cal P w K mg base 1 "lies_by" ["width", "place"] S :=
  cal_of D sc_lies_by fun f cdv A outer s H EX E as Q PX hr hg hS _ => ⟨_, d_lies_by n_divmod hr hg, vc as Q PX hS⟩

abbrev st_lies_at : Stmt := topS 17
theorem sc_lies_at : FnScope ["weave", "place"] ["weave", "place"] (defScope st_lies_at) := ⟨rfl, rfl, rfl, by decide +kernel, rfl, by decide +kernel, by decide +kernel⟩
def g_lies_at (S_need_place S_lies_by : DSpec) : DTS :=
    (sSeq (sDrop (dCall (lenS 2 S_need_place) (fun _ => False) (aCons (dFz (dVar 0)) (aCons (dFz (dVar 1)) aNil))))
    (sRet (dCall (lenS 2 S_lies_by) (fun _ => False) (aCons (dFz (dOp bIx (dVar 0) (dC (.int 0)))) (aCons (dFz (dVar 1)) aNil)))))
theorem d_lies_at {S_need_place : DSpec} (C_need_place : Cal P w K mg base 5 "need_place" ["weave", "thing"] S_need_place) {S_lies_by : DSpec} (C_lies_by : Cal P w K mg base 1 "lies_by" ["width", "place"] S_lies_by) {f : Addr} {cdv : Value} {A : Around} {outer : List Env} {s : Shared} {H : Hp} {EX : XK} {E : Ent} (hr : Room 5 (A.deeper (envOfC "lies_at" (defScope st_lies_at) s.heap.objs.size f cdv))) (hg : A.guards = some []) :
    DSs E (cxOf (L2.CX P w) P w K mg base ["weave", "place"] "lies_at" (defScope st_lies_at) f cdv A outer s H EX) (defBody st_lies_at) (g_lies_at S_need_place S_lies_by) :=
    (dss_cons (ds_expr (de_cal C_need_place (hr.mono (by decide)) hg (by rfl) (da_cons (de_fz (de_var (pv 0))) (da_cons (de_fz (de_var (pv 1))) da_nil))))
    (dss_one (ds_ret (de_cal C_lies_by (hr.mono (by decide)) hg (by rfl) (da_cons (de_fz (de_ix (de_var (pv 0)) de_int)) (da_cons (de_fz (de_var (pv 1))) da_nil))))))
theorem c_lies_at (D : Def0 K mg "lies_at" st_lies_at ["weave", "place"]) {S_need_place : DSpec} (C_need_place : Cal P w K mg base 5 "need_place" ["weave", "thing"] S_need_place) {S_lies_by : DSpec} (C_lies_by : Cal P w K mg base 1 "lies_by" ["width", "place"] S_lies_by) {S : DSpec} (vc : ∀ as Q PX, S as Q PX → g_lies_at S_need_place S_lies_by (endD as Q) (entD 2 as)) :
    Cal P w K mg base 6 "lies_at" ["weave", "place"] S :=
  cal_of D sc_lies_at fun f cdv A outer s H EX E as Q PX hr hg hS _ => ⟨_, d_lies_at C_need_place C_lies_by hr hg, vc as Q PX hS⟩

abbrev st_bobbin_at : Stmt := topS 18
theorem sc_bobbin_at : FnScope ["weave", "place", "bobbin", "many"] ["weave", "place"] (defScope st_bobbin_at) := ⟨rfl, rfl, rfl, by decide +kernel, rfl, by decide +kernel, by decide +kernel⟩
def g_bobbin_at (S_need_place : DSpec) : DTS :=
    (sSeq (sDrop (dCall (lenS 2 S_need_place) (fun _ => False) (aCons (dFz (dVar 0)) (aCons (dFz (dVar 1)) aNil))))
    (sSeq (sFor (iEnumU (fCons (dOp bIx (dVar 0) (dC (.int 1))) fNil)) (hTup 2 (hCons (hName 2) (hCons (hName 3) hNil)))
    (sSeq (sIf (dTe (dOp bLt (dVar 1) (dVar 3)))
    (sRet (dTup (fCons (dVar 2) (fCons (dVar 1) fNil))))
    sNext)
    (sSet 1 (dOp bSub (dVar 1) (dVar 3)))))
    (sRet (dC .none))))
theorem d_bobbin_at (n_enumerate : mg "enumerate" = none) {S_need_place : DSpec} (C_need_place : Cal P w K mg base 5 "need_place" ["weave", "thing"] S_need_place) {f : Addr} {cdv : Value} {A : Around} {outer : List Env} {s : Shared} {H : Hp} {EX : XK} {E : Ent} (hr : Room 5 (A.deeper (envOfC "bobbin_at" (defScope st_bobbin_at) s.heap.objs.size f cdv))) (hg : A.guards = some []) :
    DSs E (cxOf (L2.CX P w) P w K mg base ["weave", "place", "bobbin", "many"] "bobbin_at" (defScope st_bobbin_at) f cdv A outer s H EX) (defBody st_bobbin_at) (g_bobbin_at S_need_place) :=
    (dss_cons (ds_expr (de_cal C_need_place (hr.mono (by decide)) hg (by rfl) (da_cons (de_fz (de_var (pv 0))) (da_cons (de_fz (de_var (pv 1))) da_nil))))
    (dss_cons (ds_for (ps_for (passes_of rfl) rfl (di_enum (by rfl) n_enumerate (df_cons (de_ix (de_var (pv 0)) de_int) df_nil)) (dg_tup (pg_tup rfl (dgs_cons (dg_name (pg_name (i := 2) sc_bobbin_at.nd rfl (Or.inl rfl))) (dgs_cons (dg_name (pg_name (i := 3) sc_bobbin_at.nd rfl (Or.inl rfl))) dgs_nil))))
    (dss_cons (ds_if (dt_cmp op_lt oLt (de_var (pv 1)) (de_var (pv 3)) (nomark _))
    (dss_one (ds_ret (de_tup (df_cons (de_var (pv 2)) (df_cons (de_var (pv 1)) df_nil)))))
    dss_nil)
    (dss_one (ds_set (ps_set (i := 1) sc_bobbin_at.nd rfl (Or.inl rfl) (de_sub (de_var (pv 1)) (de_var (pv 3)))))))))
    (dss_one (ds_ret de_non))))
theorem c_bobbin_at (D : Def0 K mg "bobbin_at" st_bobbin_at ["weave", "place"]) (n_enumerate : mg "enumerate" = none) {S_need_place : DSpec} (C_need_place : Cal P w K mg base 5 "need_place" ["weave", "thing"] S_need_place) {S : DSpec} (vc : ∀ as Q PX, S as Q PX → g_bobbin_at S_need_place (endD as Q) (entD 4 as)) :
    Cal P w K mg base 6 "bobbin_at" ["weave", "place"] S :=
  cal_of D sc_bobbin_at fun f cdv A outer s H EX E as Q PX hr hg hS _ => ⟨_, d_bobbin_at n_enumerate C_need_place hr hg, vc as Q PX hS⟩

abbrev st_law_cell_at : Stmt := topS 20
theorem sc_law_cell_at : FnScope ["_law_script", "_law_k"] ["_law_script", "_law_k"] (defScope st_law_cell_at) := ⟨rfl, rfl, rfl, by decide +kernel, rfl, by decide +kernel, by decide +kernel⟩
def g_law_cell_at : DTS :=
    (sSeq (sIf (dTe (dOp bLt (dVar 1) (dB bLen (aCons (dVar 0) aNil))))
    (sRet (dOp bIx (dVar 0) (dVar 1)))
    sNext)
    (sRet (dC (.int 0))))
theorem d_law_cell_at (n_len : mg "len" = none) {f : Addr} {cdv : Value} {A : Around} {outer : List Env} {s : Shared} {H : Hp} {EX : XK} {E : Ent} (hr : Room 0 (A.deeper (envOfC "_law_cell_at" (defScope st_law_cell_at) s.heap.objs.size f cdv))) (hg : A.guards = some []) :
    DSs E (cxOf (L2.CX P w) P w K mg base ["_law_script", "_law_k"] "_law_cell_at" (defScope st_law_cell_at) f cdv A outer s H EX) (defBody st_law_cell_at) (g_law_cell_at) :=
    (dss_cons (ds_if (dt_cmp op_lt oLt (de_var (pv 1)) (de_len (by rfl) n_len (da_cons (de_var (pv 0)) da_nil)) (nomark _))
    (dss_one (ds_ret (de_ix (de_var (pv 0)) (de_var (pv 1)))))
    dss_nil)
    (dss_one (ds_ret de_int)))
theorem c_law_cell_at (D : Def0 K mg "_law_cell_at" st_law_cell_at ["_law_script", "_law_k"]) (n_len : mg "len" = none) {S : DSpec} (vc : ∀ as Q PX, S as Q PX → g_law_cell_at (endD as Q) (entD 2 as)) :
    Cal P w K mg base 1 "_law_cell_at" ["_law_script", "_law_k"] S :=
  cal_of D sc_law_cell_at fun f cdv A outer s H EX E as Q PX hr hg hS _ => ⟨_, d_law_cell_at n_len hr hg, vc as Q PX hS⟩

abbrev st_law_pen : Stmt := topS 21
theorem sc_law_pen : FnScope ["_law_script", "_law_k", "_law_cell"] ["_law_script", "_law_k"] (defScope st_law_pen) := ⟨rfl, rfl, rfl, by decide +kernel, rfl, by decide +kernel, by decide +kernel⟩
def g_law_pen (S_law_cell_at : DSpec) : DTS :=
    (sSeq (sSet 2 (dCall (lenS 2 S_law_cell_at) (fun _ => False) (aCons (dFz (dVar 0)) (aCons (dFz (dVar 1)) aNil))))
    (sRet (dLst (fCons (dB bMax2 (aCons (dFz (dC (.int 0))) (aCons (dFz (dOp bSub (dVar 2) (dOp bPow (dC (.int 10)) (dC (.int 18))))) aNil))) (fCons (dOpV bAddU (dOp bModP (dVar 2) (dC (.int 2147483629))) (dC (.int 1))) (fCons (dC (.int 0)) fNil))))))
theorem d_law_pen (n_max : mg "max" = none) {S_law_cell_at : DSpec} (C_law_cell_at : Cal P w K mg base 1 "_law_cell_at" ["_law_script", "_law_k"] S_law_cell_at) {f : Addr} {cdv : Value} {A : Around} {outer : List Env} {s : Shared} {H : Hp} {EX : XK} {E : Ent} (hr : Room 1 (A.deeper (envOfC "_law_pen" (defScope st_law_pen) s.heap.objs.size f cdv))) (hg : A.guards = some []) :
    DSs E (cxOf (L2.CX P w) P w K mg base ["_law_script", "_law_k", "_law_cell"] "_law_pen" (defScope st_law_pen) f cdv A outer s H EX) (defBody st_law_pen) (g_law_pen S_law_cell_at) :=
    (dss_cons (ds_set (ps_set (i := 2) sc_law_pen.nd rfl (Or.inl rfl) (de_cal C_law_cell_at (hr.mono (by decide)) hg (by rfl) (da_cons (de_fz (de_var (pv 0))) (da_cons (de_fz (de_var (pv 1))) da_nil)))))
    (dss_one (ds_ret (de_lst (df_cons (de_max2 rfl (by rfl) n_max (da_cons (de_fz de_int) (da_cons (de_fz (de_sub (de_var (pv 2)) (de_pow de_int de_int))) da_nil))) (df_cons (de_addU (de_modP (de_var (pv 2)) de_int) de_int) (df_cons de_int df_nil)))))))
theorem c_law_pen (D : Def0 K mg "_law_pen" st_law_pen ["_law_script", "_law_k"]) (n_max : mg "max" = none) {S_law_cell_at : DSpec} (C_law_cell_at : Cal P w K mg base 1 "_law_cell_at" ["_law_script", "_law_k"] S_law_cell_at) {S : DSpec} (vc : ∀ as Q PX, S as Q PX → g_law_pen S_law_cell_at (endD as Q) (entD 3 as)) :
    Cal P w K mg base 2 "_law_pen" ["_law_script", "_law_k"] S :=
  cal_of D sc_law_pen fun f cdv A outer s H EX E as Q PX hr hg hS _ => ⟨_, d_law_pen n_max C_law_cell_at hr hg, vc as Q PX hS⟩

abbrev st_law_draw : Stmt := topS 22
theorem sc_law_draw : FnScope ["_law_pen_here", "_law_many", "_law_stirred", "_law_found"] ["_law_pen_here", "_law_many"] (defScope st_law_draw) := ⟨rfl, rfl, rfl, by decide +kernel, rfl, by decide +kernel, by decide +kernel⟩
def g_law_draw : DTS :=
    (sSeq (sIf (dTe (dOp bGt (dOp bIx (dVar 0) (dC (.int 0))) (dC (.int 0))))
    (sSeq (sSet 3 (dOp bModP (dOp bIx (dVar 0) (dC (.int 0))) (dVar 1)))
    (sSeq (sPutS 0 (dOp bDivP (dOp bIx (dVar 0) (dC (.int 0))) (dVar 1)) (dC (.int 0)))
    (sRet (dVar 3))))
    sNext)
    (sSeq (sPutS 0 (dOpV bAddU (dOp bIx (dVar 0) (dC (.int 2))) (dC (.int 1))) (dC (.int 2)))
    (sSeq (sPutS 0 (dOp bModP (dOpV bAddU (dOpV bAddU (dOp bMulU (dOp bIx (dVar 0) (dC (.int 1))) (dC (.int 48271))) (dOp bMulU (dC (.int 1013)) (dOp bIx (dVar 0) (dC (.int 2))))) (dC (.int 9))) (dC (.int 2147483647))) (dC (.int 1)))
    (sSeq (sSet 2 (dOp bModP (dOpV bAddU (dOpV bAddU (dOp bMulU (dOp bIx (dVar 0) (dC (.int 1))) (dOp bIx (dVar 0) (dC (.int 1)))) (dOp bMulU (dC (.int 39373)) (dOp bIx (dVar 0) (dC (.int 1))))) (dC (.int 13))) (dC (.int 2147483629))))
    (sSeq (sSet 2 (dOp bModP (dOpV bAddU (dOp bMulU (dVar 2) (dVar 2)) (dOp bMulU (dC (.int 16807)) (dVar 2))) (dC (.int 2147483587))))
    (sRet (dOp bModP (dOp bDivP (dVar 2) (dC (.int 16))) (dVar 1))))))))
theorem d_law_draw  {f : Addr} {cdv : Value} {A : Around} {outer : List Env} {s : Shared} {H : Hp} {EX : XK} {E : Ent} (hr : Room 0 (A.deeper (envOfC "_law_draw" (defScope st_law_draw) s.heap.objs.size f cdv))) (hg : A.guards = some []) :
    DSs E (cxOf (L2.CX P w) P w K mg base ["_law_pen_here", "_law_many", "_law_stirred", "_law_found"] "_law_draw" (defScope st_law_draw) f cdv A outer s H EX) (defBody st_law_draw) (g_law_draw) :=
    (dss_cons (ds_if (dt_cmp op_gt oGt (de_ix (de_var (pv 0)) de_int) de_int (nomark _))
    (dss_cons (ds_set (ps_set (i := 3) sc_law_draw.nd rfl (Or.inl rfl) (de_modP (de_ix (de_var (pv 0)) de_int) (de_var (pv 1)))))
    (dss_cons (ds_put (ps_asg (de_fz (de_divP (de_ix (de_var (pv 0)) de_int) (de_var (pv 1)))) (pg_sub (pv 0) de_int set_list)))
    (dss_one (ds_ret (de_var (pv 3))))))
    dss_nil)
    (dss_cons (ds_put (ps_asg (de_fz (de_addU (de_ix (de_var (pv 0)) de_int) de_int)) (pg_sub (pv 0) de_int set_list)))
    (dss_cons (ds_put (ps_asg (de_fz (de_modP (de_addU (de_addU (de_mulU (de_ix (de_var (pv 0)) de_int) de_int) (de_mulU de_int (de_ix (de_var (pv 0)) de_int))) de_int) de_int)) (pg_sub (pv 0) de_int set_list)))
    (dss_cons (ds_set (ps_set (i := 2) sc_law_draw.nd rfl (Or.inl rfl) (de_modP (de_addU (de_addU (de_mulU (de_ix (de_var (pv 0)) de_int) (de_ix (de_var (pv 0)) de_int)) (de_mulU de_int (de_ix (de_var (pv 0)) de_int))) de_int) de_int)))
    (dss_cons (ds_set (ps_set (i := 2) sc_law_draw.nd rfl (Or.inl rfl) (de_modP (de_addU (de_mulU (de_var (pv 2)) (de_var (pv 2))) (de_mulU de_int (de_var (pv 2)))) de_int)))
    (dss_one (ds_ret (de_modP (de_divP (de_var (pv 2)) de_int) (de_var (pv 1))))))))))
theorem c_law_draw (D : Def0 K mg "_law_draw" st_law_draw ["_law_pen_here", "_law_many"])  {S : DSpec} (vc : ∀ as Q PX, S as Q PX → g_law_draw (endD as Q) (entD 4 as)) :
    Cal P w K mg base 1 "_law_draw" ["_law_pen_here", "_law_many"] S :=
  cal_of D sc_law_draw fun f cdv A outer s H EX E as Q PX hr hg hS _ => ⟨_, d_law_draw  hr hg, vc as Q PX hS⟩

abbrev st_law_pick : Stmt := topS 23
theorem sc_law_pick : FnScope ["_law_pen_here", "_law_some"] ["_law_pen_here", "_law_some"] (defScope st_law_pick) := ⟨rfl, rfl, rfl, by decide +kernel, rfl, by decide +kernel, by decide +kernel⟩
def g_law_pick (S_law_draw : DSpec) : DTS :=
    (sRet (dOp bIx (dVar 1) (dCall (lenS 2 S_law_draw) (fun _ => False) (aCons (dVar 0) (aCons (dFz (dB bLen (aCons (dVar 1) aNil))) aNil)))))
theorem d_law_pick (n_len : mg "len" = none) {S_law_draw : DSpec} (C_law_draw : Cal P w K mg base 1 "_law_draw" ["_law_pen_here", "_law_many"] S_law_draw) {f : Addr} {cdv : Value} {A : Around} {outer : List Env} {s : Shared} {H : Hp} {EX : XK} {E : Ent} (hr : Room 1 (A.deeper (envOfC "_law_pick" (defScope st_law_pick) s.heap.objs.size f cdv))) (hg : A.guards = some []) :
    DSs E (cxOf (L2.CX P w) P w K mg base ["_law_pen_here", "_law_some"] "_law_pick" (defScope st_law_pick) f cdv A outer s H EX) (defBody st_law_pick) (g_law_pick S_law_draw) :=
    (dss_one (ds_ret (de_ix (de_var (pv 1)) (de_cal C_law_draw (hr.mono (by decide)) hg (by rfl) (da_cons (de_var (pv 0)) (da_cons (de_fz (de_len (by rfl) n_len (da_cons (de_var (pv 1)) da_nil))) da_nil))))))
theorem c_law_pick (D : Def0 K mg "_law_pick" st_law_pick ["_law_pen_here", "_law_some"]) (n_len : mg "len" = none) {S_law_draw : DSpec} (C_law_draw : Cal P w K mg base 1 "_law_draw" ["_law_pen_here", "_law_many"] S_law_draw) {S : DSpec} (vc : ∀ as Q PX, S as Q PX → g_law_pick S_law_draw (endD as Q) (entD 2 as)) :
    Cal P w K mg base 2 "_law_pick" ["_law_pen_here", "_law_some"] S :=
  cal_of D sc_law_pick fun f cdv A outer s H EX E as Q PX hr hg hS _ => ⟨_, d_law_pick n_len C_law_draw hr hg, vc as Q PX hS⟩

abbrev st_law_same : Stmt := topS 24
theorem sc_law_same : FnScope ["_law_found", "_law_owed"] ["_law_found", "_law_owed"] (defScope st_law_same) := ⟨rfl, rfl, rfl, by decide +kernel, rfl, by decide +kernel, by decide +kernel⟩
def g_law_same : DTS :=
    (sRet (dOp bEqU (dB bRepr (aCons (dVar 0) aNil)) (dB bRepr (aCons (dVar 1) aNil))))
theorem d_law_same (n_repr : mg "repr" = none) {f : Addr} {cdv : Value} {A : Around} {outer : List Env} {s : Shared} {H : Hp} {EX : XK} {E : Ent} (hr : Room 0 (A.deeper (envOfC "_law_same" (defScope st_law_same) s.heap.objs.size f cdv))) (hg : A.guards = some []) :
    DSs E (cxOf (L2.CX P w) P w K mg base ["_law_found", "_law_owed"] "_law_same" (defScope st_law_same) f cdv A outer s H EX) (defBody st_law_same) (g_law_same) :=
    (dss_one (ds_ret (de_cmp (op_eqU hr.units) opB_eqU (de_repr hg (Room.u66 hr) (by rfl) n_repr (da_cons (de_var (pv 0)) da_nil)) (de_repr hg (Room.u66 hr) (by rfl) n_repr (da_cons (de_var (pv 1)) da_nil)) (nomark _))))
theorem c_law_same (D : Def0 K mg "_law_same" st_law_same ["_law_found", "_law_owed"]) (n_repr : mg "repr" = none) {S : DSpec} (vc : ∀ as Q PX, S as Q PX → g_law_same (endD as Q) (entD 2 as)) :
    Cal P w K mg base 1 "_law_same" ["_law_found", "_law_owed"] S :=
  cal_of D sc_law_same fun f cdv A outer s H EX E as Q PX hr hg hS _ => ⟨_, d_law_same n_repr hr hg, vc as Q PX hS⟩

abbrev st_law_weave : Stmt := topS 25
theorem sc_law_weave : FnScope ["_law_pen_here", "_law_width", "_law_bobbins", "_law_lap"] ["_law_pen_here"] (defScope st_law_weave) := ⟨rfl, rfl, rfl, by decide +kernel, rfl, by decide +kernel, by decide +kernel⟩
def g_law_weave (S_law_draw S_law_pick : DSpec) : DTS :=
    (sSeq (sPar [1, 2] (mCons (dOpV bAddU (dC (.int 1)) (dCall (lenS 2 S_law_draw) (fun _ => False) (aCons (dVar 0) (aCons (dFz (dC (.int 12))) aNil)))) (mCons (dLst fNil) aNil)))
    (sSeq (sFor (iRange1 (fCons (dOpV bAddU (dC (.int 1)) (dCall (lenS 2 S_law_draw) (fun _ => False) (aCons (dVar 0) (aCons (dFz (dC (.int 6))) aNil)))) fNil)) (hName 3)
    (sApp 2 (fCons (dOpV bAddU (dC (.int 1)) (dCall (lenS 2 S_law_draw) (fun _ => False) (aCons (dVar 0) (aCons (dFz (dCall (lenS 2 S_law_pick) (fun _ => False) (aCons (dVar 0) (aCons (dFz (dLst (fCons (dC (.int 4)) (fCons (dC (.int 20)) (fCons (dC (.int 60)) fNil))))) aNil)))) aNil)))) fNil)))
    (sRet (dTup (fCons (dVar 1) (fCons (dB bTuple (aCons (dVar 2) aNil)) fNil))))))
theorem d_law_weave (n_range : mg "range" = none) (n_tuple : mg "tuple" = none) {S_law_draw : DSpec} (C_law_draw : Cal P w K mg base 1 "_law_draw" ["_law_pen_here", "_law_many"] S_law_draw) {S_law_pick : DSpec} (C_law_pick : Cal P w K mg base 2 "_law_pick" ["_law_pen_here", "_law_some"] S_law_pick) {f : Addr} {cdv : Value} {A : Around} {outer : List Env} {s : Shared} {H : Hp} {EX : XK} {E : Ent} (hr : Room 2 (A.deeper (envOfC "_law_weave" (defScope st_law_weave) s.heap.objs.size f cdv))) (hg : A.guards = some []) :
    DSs E (cxOf (L2.CX P w) P w K mg base ["_law_pen_here", "_law_width", "_law_bobbins", "_law_lap"] "_law_weave" (defScope st_law_weave) f cdv A outer s H EX) (defBody st_law_weave) (g_law_weave S_law_draw S_law_pick) :=
    (dss_cons (ds_par (ps_par (i := 1) (j := 2) rfl sc_law_weave.nd rfl rfl (by decide) rfl rfl (dm_cons (de_addU de_int (de_cal C_law_draw (hr.mono (by decide)) hg (by rfl) (da_cons (de_var (pv 0)) (da_cons (de_fz de_int) da_nil)))) (dm_cons (de_lst df_nil) dm_nil)) (by rfl)))
    (dss_cons (ds_for (ps_for (passes_of rfl) rfl (di_range1 (by rfl) n_range (df_cons (de_addU de_int (de_cal C_law_draw (hr.mono (by decide)) hg (by rfl) (da_cons (de_var (pv 0)) (da_cons (de_fz de_int) da_nil)))) df_nil)) (dg_name (pg_name (i := 3) sc_law_weave.nd rfl (Or.inl rfl)))
    (dss_one (ds_app (ps_expr (pe_bm PySem.F.plainAttrs_list PySem.F.slot_list_append PySem.F.type_list_append mt_append (pv 2) (df_cons (de_addU de_int (de_cal C_law_draw (hr.mono (by decide)) hg (by rfl) (da_cons (de_var (pv 0)) (da_cons (de_fz (de_cal C_law_pick (hr.mono (by decide)) hg (by rfl) (da_cons (de_var (pv 0)) (da_cons (de_fz (de_lst (df_cons de_int (df_cons de_int (df_cons de_int df_nil))))) da_nil)))) da_nil)))) df_nil)))))))
    (dss_one (ds_ret (de_tup (df_cons (de_var (pv 1)) (df_cons (de_tuple (by rfl) n_tuple (da_cons (de_var (pv 2)) da_nil)) df_nil)))))))
theorem c_law_weave (D : Def0 K mg "_law_weave" st_law_weave ["_law_pen_here"]) (n_range : mg "range" = none) (n_tuple : mg "tuple" = none) {S_law_draw : DSpec} (C_law_draw : Cal P w K mg base 1 "_law_draw" ["_law_pen_here", "_law_many"] S_law_draw) {S_law_pick : DSpec} (C_law_pick : Cal P w K mg base 2 "_law_pick" ["_law_pen_here", "_law_some"] S_law_pick) {S : DSpec} (vc : ∀ as Q PX, S as Q PX → g_law_weave S_law_draw S_law_pick (endD as Q) (entD 4 as)) :
    Cal P w K mg base 3 "_law_weave" ["_law_pen_here"] S :=
  cal_of D sc_law_weave fun f cdv A outer s H EX E as Q PX hr hg hS _ => ⟨_, d_law_weave n_range n_tuple C_law_draw C_law_pick hr hg, vc as Q PX hS⟩

abbrev st_law_walk : Stmt := topS 26
theorem sc_law_walk : FnScope ["_law_width", "_law_many", "_law_found", "_law_pick_here", "_law_end", "_law_way", "_law_place"] ["_law_width", "_law_many"] (defScope st_law_walk) := ⟨rfl, rfl, rfl, by decide +kernel, rfl, by decide +kernel, by decide +kernel⟩
def g_law_walk : DTS :=
    (sSeq (sPar [2, 3, 4, 5] (mCons (dLst fNil) (mCons (dC (.int 0)) (mCons (dC (.int 0)) (mCons (dC (.int 1)) aNil)))))
    (sSeq (sFor (iRange1 (fCons (dVar 1) fNil)) (hName 6)
    (sSeq (sApp 2 (fCons (dTup (fCons (dVar 3) (fCons (dVar 4) fNil))) fNil))
    (sIf (dTe (dChain bLe bLt (dC (.int 0)) (dOpV bAddU (dVar 4) (dVar 5)) (dVar 0)))
    (sSet 4 (dOpV bAddU (dVar 4) (dVar 5)))
    (sPar [3, 5] (mCons (dOpV bAddU (dVar 3) (dC (.int 1))) (mCons (dOp bSub (dC (.int 0)) (dVar 5)) aNil))))))
    (sRet (dVar 2))))
theorem d_law_walk (n_range : mg "range" = none) {f : Addr} {cdv : Value} {A : Around} {outer : List Env} {s : Shared} {H : Hp} {EX : XK} {E : Ent} (hr : Room 0 (A.deeper (envOfC "_law_walk" (defScope st_law_walk) s.heap.objs.size f cdv))) (hg : A.guards = some []) :
    DSs E (cxOf (L2.CX P w) P w K mg base ["_law_width", "_law_many", "_law_found", "_law_pick_here", "_law_end", "_law_way", "_law_place"] "_law_walk" (defScope st_law_walk) f cdv A outer s H EX) (defBody st_law_walk) (g_law_walk) :=
    (dss_cons (ds_parN (is := [2, 3, 4, 5]) (ps_asg (pe_tup (dm_cons (de_lst df_nil) (dm_cons de_int (dm_cons de_int (dm_cons de_int dm_nil))))) (pg_tup rfl (pgs_namesS (pg_name (i := 2) sc_law_walk.nd rfl (Or.inl rfl)) (pgs_namesS (pg_name (i := 3) sc_law_walk.nd rfl (Or.inl rfl)) (pgs_namesS (pg_name (i := 4) sc_law_walk.nd rfl (Or.inl rfl)) (pgs_namesS (pg_name (i := 5) sc_law_walk.nd rfl (Or.inl rfl)) pgs_names0)))))) (by decide))
    (dss_cons (ds_for (ps_for (passes_of rfl) rfl (di_range1 (by rfl) n_range (df_cons (de_var (pv 1)) df_nil)) (dg_name (pg_name (i := 6) sc_law_walk.nd rfl (Or.inl rfl)))
    (dss_cons (ds_app (ps_expr (pe_bm PySem.F.plainAttrs_list PySem.F.slot_list_append PySem.F.type_list_append mt_append (pv 2) (df_cons (de_tup (df_cons (de_var (pv 3)) (df_cons (de_var (pv 4)) df_nil))) df_nil))))
    (dss_one (ds_if (dt_chain (pt_chain op_le op_lt de_int (de_addU (de_var (pv 4)) (de_var (pv 5))) (de_var (pv 0))) oLe oLt)
    (dss_one (ds_set (ps_set (i := 4) sc_law_walk.nd rfl (Or.inl rfl) (de_addU (de_var (pv 4)) (de_var (pv 5))))))
    (dss_one (ds_par (ps_par (i := 3) (j := 5) rfl sc_law_walk.nd rfl rfl (by decide) rfl rfl (dm_cons (de_addU (de_var (pv 3)) de_int) (dm_cons (de_sub de_int (de_var (pv 5))) dm_nil)) (by rfl)))))))))
    (dss_one (ds_ret (de_var (pv 2))))))
theorem c_law_walk (D : Def0 K mg "_law_walk" st_law_walk ["_law_width", "_law_many"]) (n_range : mg "range" = none) {S : DSpec} (vc : ∀ as Q PX, S as Q PX → g_law_walk (endD as Q) (entD 7 as)) :
    Cal P w K mg base 1 "_law_walk" ["_law_width", "_law_many"] S :=
  cal_of D sc_law_walk fun f cdv A outer s H EX E as Q PX hr hg hS _ => ⟨_, d_law_walk n_range hr hg, vc as Q PX hS⟩

abbrev st_law_right : Stmt := topS 27
theorem sc_law_right : FnScope ["_law_pen_here", "_law_weave_here", "_law_kept", "_law_spools", "_law_bobbin", "_law_many", "_law_place", "_law_spot", "_law_again", "_law_at"] ["_law_pen_here"] (defScope st_law_right) := ⟨rfl, rfl, rfl, by decide +kernel, rfl, by decide +kernel, by decide +kernel⟩
def g_law_right (S_law_weave S_law_walk S_law_same S_lies_at S_bobbin_at : DSpec) : DTS :=
    (sSeq (sSet 1 (dCall (lenS 1 S_law_weave) (fun _ => False) (aCons (dVar 0) aNil)))
    (sSeq (sPar [2, 3] (mCons (dB bRepr (aCons (dVar 1) aNil)) (mCons (dLst fNil) aNil)))
    (sSeq (sFor (iEnumU (fCons (dOp bIx (dVar 1) (dC (.int 1))) fNil)) (hTup 2 (hCons (hName 4) (hCons (hName 5) hNil)))
    (sSet 3 (dOpV bAddU (dVar 3) (dLc (iRange1 (fCons (dVar 5) fNil)) (hOwn 9) dtYes (dTup (fCons (dVar 4) (fCons (dVar 9) fNil))) [9]))))
    (sSeq (sFor (iEnumU (fCons (dCall (lenS 2 S_law_walk) (fun _ => False) (aCons (dFz (dOp bIx (dVar 1) (dC (.int 0)))) (aCons (dFz (dB bLen (aCons (dVar 3) aNil))) aNil))) fNil)) (hTup 2 (hCons (hName 6) (hCons (hName 7) hNil)))
    (sFor (iRange1 (fCons (dC (.int 2)) fNil)) (hName 8)
    (sIf (dtNot (dTe (dCall (lenS 2 S_law_same) (fun _ => False) (aCons (dFz (dLst (fCons (dCall (lenS 2 S_lies_at) (fun _ => False) (aCons (dFz (dVar 1)) (aCons (dFz (dVar 6)) aNil))) (fCons (dCall (lenS 2 S_bobbin_at) (fun _ => False) (aCons (dFz (dVar 1)) (aCons (dFz (dVar 6)) aNil))) fNil)))) (aCons (dFz (dLst (fCons (dVar 7) (fCons (dOp bIx (dVar 3) (dVar 6)) fNil)))) aNil)))))
    (sRet (dC (.bool false)))
    sNext)))
    (sRet (dOp bEqU (dB bRepr (aCons (dVar 1) aNil)) (dVar 2)))))))
theorem d_law_right (n_enumerate : mg "enumerate" = none) (n_repr : mg "repr" = none) (n_range : mg "range" = none) (n_len : mg "len" = none) {S_law_weave : DSpec} (C_law_weave : Cal P w K mg base 3 "_law_weave" ["_law_pen_here"] S_law_weave) {S_law_walk : DSpec} (C_law_walk : Cal P w K mg base 1 "_law_walk" ["_law_width", "_law_many"] S_law_walk) {S_law_same : DSpec} (C_law_same : Cal P w K mg base 1 "_law_same" ["_law_found", "_law_owed"] S_law_same) {S_lies_at : DSpec} (C_lies_at : Cal P w K mg base 6 "lies_at" ["weave", "place"] S_lies_at) {S_bobbin_at : DSpec} (C_bobbin_at : Cal P w K mg base 6 "bobbin_at" ["weave", "place"] S_bobbin_at) {f : Addr} {cdv : Value} {A : Around} {outer : List Env} {s : Shared} {H : Hp} {EX : XK} {E : Ent} (hr : Room 6 (A.deeper (envOfC "_law_right" (defScope st_law_right) s.heap.objs.size f cdv))) (hg : A.guards = some []) :
    DSs E (cxOf (L2.CX P w) P w K mg base ["_law_pen_here", "_law_weave_here", "_law_kept", "_law_spools", "_law_bobbin", "_law_many", "_law_place", "_law_spot", "_law_again", "_law_at"] "_law_right" (defScope st_law_right) f cdv A outer s H EX) (defBody st_law_right) (g_law_right S_law_weave S_law_walk S_law_same S_lies_at S_bobbin_at) :=
    (dss_cons (ds_set (ps_set (i := 1) sc_law_right.nd rfl (Or.inl rfl) (de_cal C_law_weave (hr.mono (by decide)) hg (by rfl) (da_cons (de_var (pv 0)) da_nil))))
    (dss_cons (ds_par (ps_par (i := 2) (j := 3) rfl sc_law_right.nd rfl rfl (by decide) rfl rfl (dm_cons (de_repr hg (Room.u66 hr) (by rfl) n_repr (da_cons (de_var (pv 1)) da_nil)) (dm_cons (de_lst df_nil) dm_nil)) (by rfl)))
    (dss_cons (ds_for (ps_for (passes_of rfl) rfl (di_enum (by rfl) n_enumerate (df_cons (de_ix (de_var (pv 1)) de_int) df_nil)) (dg_tup (pg_tup rfl (dgs_cons (dg_name (pg_name (i := 4) sc_law_right.nd rfl (Or.inr rfl))) (dgs_cons (dg_name (pg_name (i := 5) sc_law_right.nd rfl (Or.inl rfl))) dgs_nil))))
    (dss_one (ds_set (ps_set (i := 3) sc_law_right.nd rfl (Or.inl rfl) (de_addU (de_var (pv 3)) (de_lc rfl sc_law_right.nd (di_range1 (by rfl) n_range (df_cons (de_var (pv 5)) df_nil)) (blkOk_by (own := [("_law_at", 9)]) (by kernel_rfl)) (ct_name (by decide)) (fun _ _ _ _ _ => (pg_name (i := 9) sc_law_right.nd rfl (Or.inl rfl))) (fun _ _ _ _ _ => dpts_nil) (fun _ _ _ _ _ => (de_tup (df_cons (de_var (pv 4)) (df_cons (de_var (pv 9)) df_nil)))))))))))
    (dss_cons (ds_for (ps_for (passes_of rfl) rfl (di_enum (by rfl) n_enumerate (df_cons (de_cal C_law_walk (hr.mono (by decide)) hg (by rfl) (da_cons (de_fz (de_ix (de_var (pv 1)) de_int)) (da_cons (de_fz (de_len (by rfl) n_len (da_cons (de_var (pv 3)) da_nil))) da_nil))) df_nil)) (dg_tup (pg_tup rfl (dgs_cons (dg_name (pg_name (i := 6) sc_law_right.nd rfl (Or.inl rfl))) (dgs_cons (dg_name (pg_name (i := 7) sc_law_right.nd rfl (Or.inl rfl))) dgs_nil))))
    (dss_one (ds_for (ps_for (passes_of rfl) rfl (di_range1 (by rfl) n_range (df_cons de_int df_nil)) (dg_name (pg_name (i := 8) sc_law_right.nd rfl (Or.inl rfl)))
    (dss_one (ds_if (dt_not (dt_val (pt_val (de_cal C_law_same (hr.mono (by decide)) hg (by rfl) (da_cons (de_fz (de_lst (df_cons (de_cal C_lies_at (hr.mono (by decide)) hg (by rfl) (da_cons (de_fz (de_var (pv 1))) (da_cons (de_fz (de_var (pv 6))) da_nil))) (df_cons (de_cal C_bobbin_at (hr.mono (by decide)) hg (by rfl) (da_cons (de_fz (de_var (pv 1))) (da_cons (de_fz (de_var (pv 6))) da_nil))) df_nil)))) (da_cons (de_fz (de_lst (df_cons (de_var (pv 7)) (df_cons (de_ix (de_var (pv 3)) (de_var (pv 6))) df_nil)))) da_nil))))))
    (dss_one (ds_ret de_bl))
    dss_nil)))))))
    (dss_one (ds_ret (de_cmp (op_eqU hr.units) opB_eqU (de_repr hg (Room.u66 hr) (by rfl) n_repr (da_cons (de_var (pv 1)) da_nil)) (de_var (pv 2)) (nomark _))))))))
theorem c_law_right (D : Def0 K mg "_law_right" st_law_right ["_law_pen_here"]) (n_enumerate : mg "enumerate" = none) (n_repr : mg "repr" = none) (n_range : mg "range" = none) (n_len : mg "len" = none) {S_law_weave : DSpec} (C_law_weave : Cal P w K mg base 3 "_law_weave" ["_law_pen_here"] S_law_weave) {S_law_walk : DSpec} (C_law_walk : Cal P w K mg base 1 "_law_walk" ["_law_width", "_law_many"] S_law_walk) {S_law_same : DSpec} (C_law_same : Cal P w K mg base 1 "_law_same" ["_law_found", "_law_owed"] S_law_same) {S_lies_at : DSpec} (C_lies_at : Cal P w K mg base 6 "lies_at" ["weave", "place"] S_lies_at) {S_bobbin_at : DSpec} (C_bobbin_at : Cal P w K mg base 6 "bobbin_at" ["weave", "place"] S_bobbin_at) {S : DSpec} (vc : ∀ as Q PX, S as Q PX → g_law_right S_law_weave S_law_walk S_law_same S_lies_at S_bobbin_at (endD as Q) (entD 10 as)) :
    Cal P w K mg base 7 "_law_right" ["_law_pen_here"] S :=
  cal_of D sc_law_right fun f cdv A outer s H EX E as Q PX hr hg hS _ => ⟨_, d_law_right n_enumerate n_repr n_range n_len C_law_weave C_law_walk C_law_same C_lies_at C_bobbin_at hr hg, vc as Q PX hS⟩

abbrev st_law : Stmt := topS 28
theorem sc_law : FnScope ["_law_script", "_law_k", "_law_pen_here", "_law_lap"] ["_law_script"] (defScope st_law) := ⟨rfl, rfl, rfl, by decide +kernel, rfl, by decide +kernel, by decide +kernel⟩
def g_law (S_law_pen S_law_right : DSpec) : DTS :=
    (sSeq (sFor (iRange1 (fCons (dB bMax2 (aCons (dFz (dC (.int 1))) (aCons (dFz (dB bMin2 (aCons (dFz (dB bLen (aCons (dVar 0) aNil))) (aCons (dFz (dC (.int 4))) aNil)))) aNil))) fNil)) (hName 1)
    (sSeq (sSet 2 (dCall (lenS 2 S_law_pen) (fun _ => False) (aCons (dFz (dVar 0)) (aCons (dFz (dVar 1)) aNil))))
    (sFor (iRange1 (fCons (dC (.int 2)) fNil)) (hName 3)
    (sIf (dtNot (dTe (dCall (lenS 1 S_law_right) (fun _ => False) (aCons (dVar 2) aNil))))
    (sRet (dC (.bool false)))
    sNext))))
    (sRet (dC (.bool true))))
theorem d_law (n_range : mg "range" = none) (n_max : mg "max" = none) (n_min : mg "min" = none) (n_len : mg "len" = none) {S_law_pen : DSpec} (C_law_pen : Cal P w K mg base 2 "_law_pen" ["_law_script", "_law_k"] S_law_pen) {S_law_right : DSpec} (C_law_right : Cal P w K mg base 7 "_law_right" ["_law_pen_here"] S_law_right) {f : Addr} {cdv : Value} {A : Around} {outer : List Env} {s : Shared} {H : Hp} {EX : XK} {E : Ent} (hr : Room 7 (A.deeper (envOfC "law" (defScope st_law) s.heap.objs.size f cdv))) (hg : A.guards = some []) :
    DSs E (cxOf (L2.CX P w) P w K mg base ["_law_script", "_law_k", "_law_pen_here", "_law_lap"] "law" (defScope st_law) f cdv A outer s H EX) (defBody st_law) (g_law S_law_pen S_law_right) :=
    (dss_cons (ds_for (ps_for (passes_of rfl) rfl (di_range1 (by rfl) n_range (df_cons (de_max2 rfl (by rfl) n_max (da_cons (de_fz de_int) (da_cons (de_fz (de_min2 rfl (by rfl) n_min (da_cons (de_fz (de_len (by rfl) n_len (da_cons (de_var (pv 0)) da_nil))) (da_cons (de_fz de_int) da_nil)))) da_nil))) df_nil)) (dg_name (pg_name (i := 1) sc_law.nd rfl (Or.inl rfl)))
    (dss_cons (ds_set (ps_set (i := 2) sc_law.nd rfl (Or.inl rfl) (de_cal C_law_pen (hr.mono (by decide)) hg (by rfl) (da_cons (de_fz (de_var (pv 0))) (da_cons (de_fz (de_var (pv 1))) da_nil)))))
    (dss_one (ds_for (ps_for (passes_of rfl) rfl (di_range1 (by rfl) n_range (df_cons de_int df_nil)) (dg_name (pg_name (i := 3) sc_law.nd rfl (Or.inl rfl)))
    (dss_one (ds_if (dt_not (dt_val (pt_val (de_cal C_law_right (hr.mono (by decide)) hg (by rfl) (da_cons (de_var (pv 2)) da_nil)))))
    (dss_one (ds_ret de_bl))
    dss_nil))))))))
    (dss_one (ds_ret de_bl)))
theorem c_law (D : Def0 K mg "law" st_law ["_law_script"]) (n_range : mg "range" = none) (n_max : mg "max" = none) (n_min : mg "min" = none) (n_len : mg "len" = none) {S_law_pen : DSpec} (C_law_pen : Cal P w K mg base 2 "_law_pen" ["_law_script", "_law_k"] S_law_pen) {S_law_right : DSpec} (C_law_right : Cal P w K mg base 7 "_law_right" ["_law_pen_here"] S_law_right) {S : DSpec} (vc : ∀ as Q PX, S as Q PX → g_law S_law_pen S_law_right (endD as Q) (entD 4 as)) :
    Cal P w K mg base 8 "law" ["_law_script"] S :=
  cal_of D sc_law fun f cdv A outer s H EX E as Q PX hr hg hS _ => ⟨_, d_law n_range n_max n_min n_len C_law_pen C_law_right hr hg, vc as Q PX hS⟩
theorem l_law {fa : Addr} {fd : FuncData} (F : Fun K "law" "law" st_law fa fd) (n_range : mg "range" = none) (n_max : mg "max" = none) (n_min : mg "min" = none) (n_len : mg "len" = none) {S_law_pen : DSpec} (C_law_pen : Cal P w K mg base 2 "_law_pen" ["_law_script", "_law_k"] S_law_pen) {S_law_right : DSpec} (C_law_right : Cal P w K mg base 7 "_law_right" ["_law_pen_here"] S_law_right) (vc : ∀ as Q PX, S_law as Q PX → g_law S_law_pen S_law_right (endD as Q) (entD 4 as)) :
    FnG P w K mg base 8 fa fd ["_law_script"] (spD K mg 1 (lenS 1 S_law)) :=
  fng_of (S := S_law) F sc_law fun f cdv A outer s H EX E as Q PX hr hg hS _ => ⟨_, d_law n_range n_max n_min n_len C_law_pen C_law_right hr hg, vc as Q PX hS⟩

end
end DL
set_option Elab.async false
set_option linter.all false
set_option autoImplicit false
set_option maxRecDepth 100000
set_option maxHeartbeats 4000000
namespace DL
open PySem L2
local macro_rules | `(tactic| walk_at "vc") => `(tactic| simp (maxSteps := 1000000) only [sNext, sSeq, sBreak, sCont, sDrop, sRet, sRetN, sIf, sSet, sAsg, sPar, sApp, sPutS, sPut, sAug, resOf, putV, putAll, setC,
  dVar, vlOf, dC, dFz, setD, dOp, dOpV, dOpL, dChain, dTe, dtAnd, dtOr, dtNot, dAnd, dOr, dNot, dIf, dNeg, dIsi, dTup, dLst, dB, dBL, dCall, lenS, fNil, fCons, aNil, aCons, mCons, hName, hTup, hNil, hCons, hOwn,
  rd, slotD, Sl.it, Sl.mu, argsOf, argOf, oneB, noB, Sl.isB, firstV, putB, resV, endD, exitB, entD, Vl.old, wipeD, backD, keepD,
  bAddU, bModP, bDivP, bMulU, bPow, bSub, bAdd, bLt, bLe, bGt, bGe, bEqU, bNeU, bEq, bNe, I2, bIx, bLen, bTuple, bListOf, bAll, bAny, bSum, bMax2, bMin2, bDivmod, bRepr, iSeqU, iRange1, iRange2, iEnumU, sFor, dLc,
  vls_nil, vls_cons, isIntD, isBoolD, isTupD, isStrD, isListD, isDictD, nd_int, nd_bool, nd_str, nd_none, nd_tup, nd_list, nd_nil, nd_cons, sh_int, sh_bool, sh_none, eqv_int, eqv_str, sz_eq, CDiv, bnd,
  List.map_cons, List.map_nil, List.length_cons, List.length_nil, List.replicate_succ, List.replicate_zero, List.cons_append, List.nil_append, List.getElem?_cons_zero, List.getElem?_cons_succ, List.set_cons_zero, List.set_cons_succ, List.all_cons, List.all_nil,
  Option.some.injEq, Sl.d.injEq, Sl.b.injEq, Sl.l.injEq, Vl.d.injEq, Vl.n.injEq, Vl.v.injEq, PyData.int.injEq, PyData.bool.injEq, PyData.str.injEq, PyData.list.injEq, PyData.tuple.injEq, List.cons.injEq, reduceCtorEq,
  exists_eq_left', exists_eq_left, exists_eq_right', exists_eq_right, exists_and_left, exists_and_right, exists_eq, forall_const, implies_true, Int.reducePow, Int.reduceNeg, exists_eq', at0, at1, at2, at3, at4, ix30, ix31, ix32, exists_const, and_true, true_and, and_false, false_and, ne_eq, not_false_eq_true, not_true_eq_false, and_self, and_assoc, false_or, or_false, true_or, or_true, Nat.reduceAdd, Nat.reduceSub, Nat.reduceLeDiff, Int.reduceLT, Int.reduceLE, Int.reduceToNat, Bool.and_true, Bool.true_and, Bool.not_true, Bool.not_false, Bool.and_false, Bool.false_and,
  decide_eq_true_eq, decide_true, decide_false, Bool.and_eq_true, Bool.not_eq_true, Bool.not_eq_true', decide_eq_false_iff_not, ite_true, ite_false, if_true, if_false, Bool.false_eq_true, ↓reduceIte, List.mem_cons, List.not_mem_nil, forall_eq_or_imp, forall_eq, Nat.sub_self, Nat.add_one_sub_one, Nat.zero_add])
def isWhole : PyData → Bool
  | .int _ => true
  | _ => false
def S_is_whole : DSpec := fun as P _ => ∃ x, as = [.d x] ∧ P (.d (.bool (isWhole x))) none
def isWithin (x : PyData) (lo hi : Int) : Bool := match x with
  | .int i => decide (lo ≤ i) && decide (i ≤ hi)
  | _ => false
def S_is_within : DSpec := fun as P _ => ∃ x lo hi, as = [.d x, .d (.int lo), .d (.int hi)] ∧ P (.d (.bool (isWithin x lo hi))) none
def isLong (x : PyData) (lo hi : Int) : Bool := match x with
  | .tuple xs => decide (lo ≤ (xs.length : Nat)) && decide (((xs.length : Nat) : Int) ≤ hi)
  | _ => false
def S_is_long : DSpec := fun as P _ => ∃ x lo hi, as = [.d x, .d (.int lo), .d (.int hi)] ∧ P (.d (.bool (isLong x lo hi))) none
theorem vc_is_whole : ∀ as Q PX, S_is_whole as Q PX → g_is_whole (endD as Q) (entD 1 as) := by
  rintro as Q PX ⟨x, rfl, q⟩
  unfold g_is_whole
  cases x <;> (walk_at "vc"; exact q)
theorem vc_is_within : ∀ as Q PX, S_is_within as Q PX → g_is_within S_is_whole (endD as Q) (entD 3 as) := by
  rintro as Q PX ⟨x, lo, hi, rfl, q⟩
  unfold g_is_within S_is_whole
  walk_at "vc"
  cases x with
  | int i =>
    simp only [isWhole, isWithin] at q ⊢
    walk_at "vc"
    by_cases h : lo ≤ i
    · simpa [h] using q
    · simpa [h] using q
  | _ => simpa [isWhole, isWithin] using q
theorem vc_is_long : ∀ as Q PX, S_is_long as Q PX → g_is_long (endD as Q) (entD 3 as) := by
  rintro as Q PX ⟨x, lo, hi, rfl, q⟩
  unfold g_is_long
  cases x with
  | tuple xs =>
    simp only [isLong] at q
    walk_at "vc"
    by_cases h : lo ≤ ((xs.length : Nat) : Int)
    · simpa [h] using q
    · simpa [h] using q
  | _ => walk_at "vc"; simpa [isLong] using q
/-- a weave -/
def isWeave : PyData → Bool
  | .tuple [a, .tuple bs] => isWithin a 1 12 && (decide (1 ≤ bs.length) && decide (bs.length ≤ 6) && bs.all fun b => isWithin b 1 60)
  | _ => false
def S_is_weave : DSpec := fun as P _ => ∃ x, as = [.d x] ∧ P (.d (.bool (isWeave x))) none
theorem isLong_tup {x : PyData} {lo hi : Int} (h : isLong x lo hi = true) : ∃ xs, x = .tuple xs ∧ lo ≤ (xs.length : Nat) ∧ ((xs.length : Nat) : Int) ≤ hi := by
  cases x with
  | tuple xs =>
    simp only [isLong, Bool.and_eq_true, decide_eq_true_eq] at h
    exact ⟨xs, rfl, h⟩
  | _ => cases h
theorem len2 {xs : List PyData} (h : (2 : Int) ≤ (xs.length : Nat)) (h' : ((xs.length : Nat) : Int) ≤ 2) : ∃ a b, xs = [a, b] := by
  match xs with
  | [] => simp at h
  | [a] => simp at h
  | [a, b] => exact ⟨a, b, rfl⟩
  | a :: b :: c :: r => exact absurd h' (by rw [List.length_cons, List.length_cons, List.length_cons]; omega)
theorem vc_is_weave : ∀ as Q PX, S_is_weave as Q PX → g_is_weave S_is_long S_is_within (endD as Q) (entD 2 as) := by
  rintro as Q PX ⟨x, rfl, q⟩
  unfold g_is_weave S_is_long S_is_within
  walk_at "vc"
  cases h1 : isLong x 2 2 with
  | false =>
    simp only [Bool.not_false, if_true]
    have : isWeave x = false := by
      unfold isWeave
      split
      · simp [isLong] at h1
      · rfl
    rw [this] at q
    exact q
  | true =>
    obtain ⟨xs, rfl, l1, l2⟩ := isLong_tup h1
    obtain ⟨a, b, rfl⟩ := len2 l1 l2
    walk_at "vc"
    cases h2 : isWithin a 1 12 with
    | false =>
      walk_at "vc"
      have : isWeave (.tuple [a, b]) = false := by
        unfold isWeave
        split
        · rename_i e; cases e; rw [h2]; rfl
        · rfl
      rw [this] at q
      exact q
    | true =>
      walk_at "vc"
      cases h3 : isLong b 1 6 with
      | false =>
        walk_at "vc"
        have : isWeave (.tuple [a, b]) = false := by
          unfold isWeave
          split
          · rename_i bs e
            cases e
            simp only [isLong, Bool.and_eq_false_iff, decide_eq_false_iff_not] at h3
            rw [h2]
            rcases h3 with h3 | h3
            · have : ¬ 1 ≤ bs.length := by omega
              simp [this]
            · have : ¬ bs.length ≤ 6 := by omega
              simp [this]
          · rfl
        rw [this] at q
        exact q
      | true =>
        obtain ⟨bs, rfl, l3, l4⟩ := isLong_tup h3
        walk_at "vc"
        refine lc_map (xs := bs) (fun b => .bool (isWithin b 1 60)) (by rw [sz_eq]; omega) (fun x hx A hA => ?_) ?_
        · walk_at "vc"
          exact hA
        · walk_at "vc"
          refine ⟨_, ⟨bs.map fun b => isWithin b 1 60, by simp, rfl⟩, ?_⟩
          have : isWeave (.tuple [a, .tuple bs]) = (List.map (fun b => isWithin b 1 60) bs).all id := by
            have e1 : 1 ≤ bs.length := by omega
            have e2 : bs.length ≤ 6 := by omega
            simp [isWeave, h2, e1, e2, List.all_map, Function.comp_def]
          rw [← this]
          exact q

end DL
set_option Elab.async false
set_option linter.all false
set_option autoImplicit false
set_option maxRecDepth 100000
set_option maxHeartbeats 4000000
namespace DL
open PySem L2
local macro_rules | `(tactic| walk_at "vc") => `(tactic| simp (maxSteps := 1000000) only [sNext, sSeq, sBreak, sCont, sDrop, sRet, sRetN, sIf, sSet, sAsg, sPar, sApp, sPutS, sPut, sAug, resOf, putV, putAll, setC,
  dVar, vlOf, dC, dFz, setD, dOp, dOpV, dOpL, dChain, dTe, dtAnd, dtOr, dtNot, dAnd, dOr, dNot, dIf, dNeg, dIsi, dTup, dLst, dB, dBL, dCall, lenS, fNil, fCons, aNil, aCons, mCons, hName, hTup, hNil, hCons, hOwn,
  rd, slotD, Sl.it, Sl.mu, argsOf, argOf, oneB, noB, Sl.isB, firstV, putB, resV, endD, exitB, entD, Vl.old, wipeD, backD, keepD,
  bAddU, bModP, bDivP, bMulU, bPow, bSub, bAdd, bLt, bLe, bGt, bGe, bEqU, bNeU, bEq, bNe, I2, bIx, bLen, bTuple, bListOf, bAll, bAny, bSum, bMax2, bMin2, bDivmod, bRepr, iSeqU, iRange1, iRange2, iEnumU, sFor, dLc,
  vls_nil, vls_cons, isIntD, isBoolD, isTupD, isStrD, isListD, isDictD, nd_int, nd_bool, nd_str, nd_none, nd_tup, nd_list, nd_nil, nd_cons, sh_int, sh_bool, sh_none, eqv_int, eqv_str, sz_eq, CDiv, bnd,
  List.map_cons, List.map_nil, List.length_cons, List.length_nil, List.replicate_succ, List.replicate_zero, List.cons_append, List.nil_append, List.getElem?_cons_zero, List.getElem?_cons_succ, List.set_cons_zero, List.set_cons_succ, List.all_cons, List.all_nil,
  Option.some.injEq, Sl.d.injEq, Sl.b.injEq, Sl.l.injEq, Vl.d.injEq, Vl.n.injEq, Vl.v.injEq, PyData.int.injEq, PyData.bool.injEq, PyData.str.injEq, PyData.list.injEq, PyData.tuple.injEq, List.cons.injEq, reduceCtorEq,
  exists_eq_left', exists_eq_left, exists_eq_right', exists_eq_right, exists_and_left, exists_and_right, exists_eq, forall_const, implies_true, Int.reducePow, Int.reduceNeg, exists_eq', at0, at1, at2, at3, at4, ix30, ix31, ix32, exists_const, and_true, true_and, and_false, false_and, ne_eq, not_false_eq_true, not_true_eq_false, and_self, and_assoc, false_or, or_false, true_or, or_true, Nat.reduceAdd, Nat.reduceSub, Nat.reduceLeDiff, Int.reduceLT, Int.reduceLE, Int.reduceToNat, Bool.and_true, Bool.true_and, Bool.not_true, Bool.not_false, Bool.and_false, Bool.false_and,
  decide_eq_true_eq, decide_true, decide_false, Bool.and_eq_true, Bool.not_eq_true, Bool.not_eq_true', decide_eq_false_iff_not, ite_true, ite_false, if_true, if_false, Bool.false_eq_true, ↓reduceIte, List.mem_cons, List.not_mem_nil, forall_eq_or_imp, forall_eq, Nat.sub_self, Nat.add_one_sub_one, Nat.zero_add])
def S_need_weave : DSpec := fun as P _ => ∃ x, as = [.d x] ∧ isWeave x = true ∧ P (.d .none) none
theorem vc_need_weave : ∀ as Q PX, S_need_weave as Q PX → g_need_weave S_is_weave (endD as Q) (entD 1 as) := by
  rintro as Q PX ⟨x, rfl, h, q⟩
  unfold g_need_weave S_is_weave
  walk_at "vc"
  rw [h]
  exact q
/-- a weave by its numbers -/
def wv (w : Int) (bs : List Int) : PyData := .tuple [.int w, .tuple (bs.map .int)]
structure WOk (w : Int) (bs : List Int) : Prop where
  w1 : 1 ≤ w
  w2 : w ≤ 12
  l1 : 1 ≤ bs.length
  l2 : bs.length ≤ 6
  b : ∀ x ∈ bs, 1 ≤ x ∧ x ≤ 60
theorem WOk.is {w : Int} {bs : List Int} (h : WOk w bs) : isWeave (wv w bs) = true := by
  have e1 : (List.map PyData.int bs).all (fun b => isWithin b 1 60) = true := by
    rw [List.all_map, List.all_eq_true]
    intro x hx
    have := h.b x hx
    simp [isWithin, this]
  have h1 := h.w1
  have h2 := h.w2
  have h3 := h.l1
  have h4 := h.l2
  unfold isWeave wv
  simp [isWithin, h1, h2, h3, h4]
  exact h.b
def S_many_places : DSpec := fun as P _ => ∃ w bs, as = [.d (wv w bs)] ∧ P (.d (.int bs.sum)) none
theorem vc_many_places : ∀ as Q PX, S_many_places as Q PX → g_many_places (endD as Q) (entD 1 as) := by
  rintro as Q PX ⟨w, bs, rfl, q⟩
  unfold g_many_places wv
  walk_at "vc"
  exact ⟨_, ⟨bs, rfl, rfl⟩, q⟩
theorem sum_bound {bs : List Int} (h : ∀ x ∈ bs, 1 ≤ x ∧ x ≤ 60) : (bs.length : Int) ≤ bs.sum ∧ bs.sum ≤ 60 * (bs.length : Int) := by
  induction bs with
  | nil => simp
  | cons x r ih =>
    have h1 := h x List.mem_cons_self
    have h2 := ih fun y hy => h y (List.mem_cons_of_mem _ hy)
    rw [List.sum_cons, List.length_cons]
    omega
def S_need_place : DSpec := fun as P _ => ∃ w bs n, as = [.d (wv w bs), .d (.int n)] ∧ WOk w bs ∧ 0 ≤ n ∧ n < bs.sum ∧ P (.d .none) none
theorem vc_need_place : ∀ as Q PX, S_need_place as Q PX → g_need_place S_need_weave S_is_within S_many_places (endD as Q) (entD 2 as) := by
  rintro as Q PX ⟨w, bs, n, rfl, ok, h0, h1, q⟩
  unfold g_need_place S_need_weave S_is_within S_many_places
  walk_at "vc"
  refine ⟨ok.is, w, bs, rfl, ?_⟩
  have : isWithin (.int n) 0 (bs.sum - 1) = true := by simp [isWithin]; omega
  rw [this]
  walk_at "vc"
  exact q
/-- where a place lies -/
def lies (w n : Int) : PyData := .tuple [.int (n / w), .int (if n / w % 2 = 0 then n % w else w - 1 - n % w)]
def S_lies_by : DSpec := fun as P _ => ∃ w n : Int, as = [.d (.int w), .d (.int n)] ∧ 0 < w ∧ w < 1000 ∧ P (.d (lies w n)) none
theorem vc_lies_by : ∀ as Q PX, S_lies_by as Q PX → g_lies_by (endD as Q) (entD 4 as) := by
  rintro as Q PX ⟨w, n, rfl, h0, h1, q⟩
  unfold g_lies_by
  walk_at "vc"
  refine ⟨h0, by omega, ?_⟩
  unfold lies at q
  by_cases h : n / w % 2 = 0
  · rw [if_pos h] at q
    rw [if_pos h]
    exact q
  · rw [if_neg h] at q
    rw [if_neg h]
    exact q
def S_lies_at : DSpec := fun as P _ => ∃ w bs n, as = [.d (wv w bs), .d (.int n)] ∧ WOk w bs ∧ 0 ≤ n ∧ n < bs.sum ∧ P (.d (lies w n)) none
theorem vc_lies_at : ∀ as Q PX, S_lies_at as Q PX → g_lies_at S_need_place S_lies_by (endD as Q) (entD 2 as) := by
  rintro as Q PX ⟨w, bs, n, rfl, ok, h0, h1, q⟩
  unfold g_lies_at S_need_place S_lies_by
  walk_at "vc"
  refine ⟨w, bs, rfl, ok, h0, h1, ?_⟩
  unfold wv
  walk_at "vc"
  have := ok.w1
  have := ok.w2
  exact ⟨by omega, by omega, q⟩
/-- the bobbin of a place, from the i-th bobbin on -/
def bobb : Nat → List Int → Int → PyData
  | _, [], _ => .none
  | i, b :: bs, n => if n < b then .tuple [.int (i : Nat), .int n] else bobb (i + 1) bs (n - b)
def S_bobbin_at : DSpec := fun as P _ => ∃ w bs n, as = [.d (wv w bs), .d (.int n)] ∧ WOk w bs ∧ 0 ≤ n ∧ n < bs.sum ∧ P (.d (bobb 0 bs n)) none
theorem enum_split {xs pre post : List PyData} {x : PyData} (h : enumD xs = pre ++ x :: post) : ∃ y, x = .tuple [.int (pre.length : Nat), y] ∧ xs.drop pre.length = y :: xs.drop (pre.length + 1) := by
  have e : (enumD xs)[pre.length]? = some x := by rw [h]; simp
  have hl : pre.length < xs.length := by
    have := (List.getElem?_eq_some_iff.mp e).1
    rwa [enumD_len] at this
  have e2 := enumD_at (xs := xs) (i := pre.length) (x := xs[pre.length]) (by simp [hl])
  rw [e] at e2
  refine ⟨xs[pre.length], Option.some.inj e2, ?_⟩
  rw [List.drop_eq_getElem_cons hl]
theorem vc_bobbin_at : ∀ as Q PX, S_bobbin_at as Q PX → g_bobbin_at S_need_place (endD as Q) (entD 4 as) := by
  rintro as Q PX ⟨w, bs, n, rfl, ok, h0, h1, q⟩
  unfold g_bobbin_at S_need_place
  walk_at "vc"
  refine ⟨w, bs, rfl, ok, h0, h1, ?_⟩
  unfold wv
  walk_at "vc"
  refine ⟨fun pre r => ∃ (a b : Option Sl) (m : Int), r = [some (.d (wv w bs)), some (.d (.int m)), a, b] ∧ 0 ≤ m ∧ m < (bs.drop pre.length).sum ∧ Q (.d (bobb pre.length (bs.drop pre.length) m)) none, ⟨none, none, n, rfl, h0, by simpa using h1, by simpa using q⟩, ?_, ?_⟩
  · rintro pre x post r' e ⟨a, b, m, rfl, m0, m1, qm⟩
    obtain ⟨y, rfl, hd⟩ := enum_split e
    have hl : pre.length < bs.length := by
      have := congrArg List.length e
      rw [enumD_len] at this
      simp at this
      omega
    have hy : y = .int bs[pre.length] ∧ bs.drop pre.length = bs[pre.length] :: bs.drop (pre.length + 1) := by
      have h2 := List.drop_eq_getElem_cons hl
      refine ⟨?_, h2⟩
      rw [← List.map_drop, h2, List.map_cons] at hd
      exact (List.cons.inj hd).1.symm
    obtain ⟨rfl, hd2⟩ := hy
    rw [hd2] at m1 qm
    rw [List.sum_cons] at m1
    unfold bobb at qm
    walk_at "vc"
    by_cases h : m < bs[pre.length]
    · rw [if_pos h] at qm
      simp only [h, if_true]
      exact qm
    · rw [if_neg h] at qm
      simp only [h, if_false]
      refine ⟨by omega, ?_, ?_⟩
      · rw [List.length_append]
        show m - bs[pre.length] < (bs.drop (pre.length + 1)).sum
        omega
      · rw [List.length_append]
        exact qm
  · rintro r' ⟨a, b, m, rfl, m0, m1, qm⟩
    exfalso
    rw [enumD_len, List.length_map, List.drop_length] at m1
    simp at m1
    omega
end DL
set_option Elab.async false
set_option linter.all false
set_option autoImplicit false
set_option maxRecDepth 100000
set_option maxHeartbeats 4000000
namespace DL
open PySem L2
local macro_rules | `(tactic| walk_at "vc") => `(tactic| simp (maxSteps := 1000000) only [sNext, sSeq, sBreak, sCont, sDrop, sRet, sRetN, sIf, sSet, sAsg, sPar, sApp, sPutS, sPut, sAug, resOf, putV, putAll, setC,
  dVar, vlOf, dC, dFz, setD, dOp, dOpV, dOpL, dChain, dTe, dtAnd, dtOr, dtNot, dAnd, dOr, dNot, dIf, dNeg, dIsi, dTup, dLst, dB, dBL, dCall, lenS, fNil, fCons, aNil, aCons, mCons, hName, hTup, hNil, hCons, hOwn,
  rd, slotD, Sl.it, Sl.mu, argsOf, argOf, oneB, noB, Sl.isB, firstV, putB, resV, endD, exitB, entD, Vl.old, wipeD, backD, keepD,
  bAddU, bModP, bDivP, bMulU, bPow, bSub, bAdd, bLt, bLe, bGt, bGe, bEqU, bNeU, bEq, bNe, I2, bIx, bLen, bTuple, bListOf, bAll, bAny, bSum, bMax2, bMin2, bDivmod, bRepr, iSeqU, iRange1, iRange2, iEnumU, sFor, dLc,
  vls_nil, vls_cons, isIntD, isBoolD, isTupD, isStrD, isListD, isDictD, nd_int, nd_bool, nd_str, nd_none, nd_tup, nd_list, nd_nil, nd_cons, sh_int, sh_bool, sh_none, eqv_int, eqv_str, sz_eq, CDiv, bnd,
  List.map_cons, List.map_nil, List.length_cons, List.length_nil, List.replicate_succ, List.replicate_zero, List.cons_append, List.nil_append, List.getElem?_cons_zero, List.getElem?_cons_succ, List.set_cons_zero, List.set_cons_succ, List.all_cons, List.all_nil,
  Option.some.injEq, Sl.d.injEq, Sl.b.injEq, Sl.l.injEq, Vl.d.injEq, Vl.n.injEq, Vl.v.injEq, PyData.int.injEq, PyData.bool.injEq, PyData.str.injEq, PyData.list.injEq, PyData.tuple.injEq, List.cons.injEq, reduceCtorEq,
  exists_eq_left', exists_eq_left, exists_eq_right', exists_eq_right, exists_and_left, exists_and_right, exists_eq, forall_const, implies_true, Int.reducePow, Int.reduceNeg, exists_eq', at0, at1, at2, at3, at4, ix30, ix31, ix32, exists_const, and_true, true_and, and_false, false_and, ne_eq, not_false_eq_true, not_true_eq_false, and_self, and_assoc, false_or, or_false, true_or, or_true, Nat.reduceAdd, Nat.reduceSub, Nat.reduceLeDiff, Int.reduceLT, Int.reduceLE, Int.reduceToNat, Bool.and_true, Bool.true_and, Bool.not_true, Bool.not_false, Bool.and_false, Bool.false_and,
  decide_eq_true_eq, decide_true, decide_false, Bool.and_eq_true, Bool.not_eq_true, Bool.not_eq_true', decide_eq_false_iff_not, ite_true, ite_false, if_true, if_false, Bool.false_eq_true, ↓reduceIte, List.mem_cons, List.not_mem_nil, forall_eq_or_imp, forall_eq, Nat.sub_self, Nat.add_one_sub_one, Nat.zero_add])
def S_law_cell_at : DSpec := fun as P _ => ∃ (ns : List Int) (k : Int), as = [.d (.list (ns.map .int)), .d (.int k)] ∧ 0 ≤ k ∧ ∀ c : Int, P (.d (.int c)) none
theorem at_map {ns : List Int} {k : Int} (h0 : 0 ≤ k) (h1 : k < (ns.length : Nat)) : ∃ c, atD (ns.map .int) k = some (.int c) := by
  unfold atD ixN
  have hl : k.toNat < ns.length := by omega
  rw [if_pos h0, if_pos (by rw [List.length_map]; omega)]
  exact ⟨ns[k.toNat], by simp [hl]⟩
theorem vc_law_cell_at : ∀ as Q PX, S_law_cell_at as Q PX → g_law_cell_at (endD as Q) (entD 2 as) := by
  rintro as Q PX ⟨ns, k, rfl, h0, q⟩
  unfold g_law_cell_at
  walk_at "vc"
  by_cases h : k < (ns.length : Nat)
  · simp only [List.length_map, h, if_true]
    obtain ⟨c, e⟩ := at_map h0 h
    exact ⟨_, e, q c⟩
  · simp only [List.length_map, h, if_false]
    exact q 0
/-- a pen as the law's own drawing keeps it -/
def Pen (p : PyData) : Prop := ∃ a b c : Int, p = .list [.int a, .int b, .int c] ∧ 0 ≤ b ∧ b < 2147483648
def S_law_pen : DSpec := fun as P _ => ∃ (ns : List Int) (k : Int), as = [.d (.list (ns.map .int)), .d (.int k)] ∧ 0 ≤ k ∧ ∀ p, Pen p → P (.l p) none
theorem vc_law_pen : ∀ as Q PX, S_law_pen as Q PX → g_law_pen S_law_cell_at (endD as Q) (entD 3 as) := by
  rintro as Q PX ⟨ns, k, rfl, h0, q⟩
  unfold g_law_pen S_law_cell_at
  walk_at "vc"
  refine ⟨⟨ns, rfl⟩, h0, fun c => ⟨by unfold CPow; decide, q _ ⟨_, _, _, rfl, ?_, ?_⟩⟩⟩ <;> omega
def S_law_draw : DSpec := fun as P _ => ∃ (p : PyData) (m : Int), as = [.b p, .d (.int m)] ∧ Pen p ∧ 0 < m ∧ m < 1073741824 ∧ ∀ p' r, Pen p' → 0 ≤ r → r < m → P (.d (.int r)) (some p')
theorem vc_law_draw : ∀ as Q PX, S_law_draw as Q PX → g_law_draw (endD as Q) (entD 4 as) := by
  rintro as Q PX ⟨p, m, rfl, ⟨a, b, c, rfl, b0, b1⟩, m0, m1, q⟩
  unfold g_law_draw
  refine seq_cut (fun r => r = [some (.b (.list [.int a, .int b, .int c])), some (.d (.int m)), none, none]) (fun X hX => ?_) ?_
  · walk_at "vc"
    by_cases h : 0 < a
    · simp only [h, if_true]
      exact ⟨m0, m0, .inl m1, q _ _ ⟨_, b, c, rfl, b0, b1⟩ (Int.emod_nonneg _ (by omega)) (Int.emod_lt_of_pos _ m0)⟩
    · simp only [h, if_false]
      exact hX _ rfl
  rintro _ rfl
  refine seq_cut (fun r => ∃ c : Int, r = [some (.b (.list [.int a, .int b, .int c])), some (.d (.int m)), none, none]) (fun X hX => ?_) ?_
  · walk_at "vc"
    exact hX _ ⟨_, rfl⟩
  rintro _ ⟨c, rfl⟩
  refine seq_cut (fun r => ∃ b : Int, (0 ≤ b ∧ b < 2147483648) ∧ r = [some (.b (.list [.int a, .int b, .int c])), some (.d (.int m)), none, none]) (fun X hX => ?_) ?_
  · walk_at "vc"
    refine ⟨.inl (.inr ⟨by omega, by omega⟩), .inl (.inl ⟨by omega, by omega⟩), hX _ ⟨_, ?_, rfl⟩⟩
    omega
  rintro _ ⟨b, ⟨b0, b1⟩, rfl⟩
  refine seq_cut (fun r => ∃ d : Int, (0 ≤ d ∧ d < 2147483648) ∧ r = [some (.b (.list [.int a, .int b, .int c])), some (.d (.int m)), some (.d (.int d)), none]) (fun X hX => ?_) ?_
  · walk_at "vc"
    refine ⟨.inl (.inl ⟨by omega, by omega⟩), .inl (.inl ⟨by omega, by omega⟩), hX _ ⟨_, ?_, rfl⟩⟩
    generalize b * b = e
    omega
  rintro _ ⟨d, ⟨d0, d1⟩, rfl⟩
  refine seq_cut (fun r => ∃ d : Int, (0 ≤ d ∧ d < 2147483648) ∧ r = [some (.b (.list [.int a, .int b, .int c])), some (.d (.int m)), some (.d (.int d)), none]) (fun X hX => ?_) ?_
  · walk_at "vc"
    refine ⟨.inl (.inl ⟨by omega, by omega⟩), .inl (.inl ⟨by omega, by omega⟩), hX _ ⟨_, ?_, rfl⟩⟩
    generalize d * d = e
    omega
  rintro _ ⟨e, ⟨e0, e1⟩, rfl⟩
  walk_at "vc"
  exact ⟨m0, q _ _ ⟨a, b, c, rfl, b0, b1⟩ (Int.emod_nonneg _ (by omega)) (Int.emod_lt_of_pos _ m0)⟩
def S_law_pick : DSpec := fun as P _ => ∃ (p : PyData) (xs : List PyData), as = [.b p, .d (.list xs)] ∧ Pen p ∧ 0 < xs.length ∧ xs.length < 1073741824 ∧ ∀ p' x, Pen p' → x ∈ xs → P (.d x) (some p')
theorem vc_law_pick : ∀ as Q PX, S_law_pick as Q PX → g_law_pick S_law_draw (endD as Q) (entD 2 as) := by
  rintro as Q PX ⟨p, xs, rfl, hp, m0, m1, q⟩
  unfold g_law_pick S_law_draw
  walk_at "vc"
  refine ⟨hp, by omega, by omega, fun p' r hp' r0 r1 => ?_⟩
  have hl : r.toNat < xs.length := by omega
  refine ⟨xs[r.toNat], ?_, q _ _ hp' (List.getElem_mem _)⟩
  unfold atD ixN
  rw [if_pos r0, if_pos (by omega)]
  simp [hl]
def S_law_same : DSpec := fun as P _ => ∃ x y, as = [.d x, .d y] ∧ OkR x ∧ OkR y ∧ P (.d (.bool (decide (x.shown = y.shown)))) none
theorem vc_law_same : ∀ as Q PX, S_law_same as Q PX → g_law_same (endD as Q) (entD 2 as) := by
  rintro as Q PX ⟨x, y, rfl, hx, hy, q⟩
  unfold g_law_same
  walk_at "vc"
  exact ⟨hx, hy, q⟩
end DL
set_option Elab.async false
set_option linter.all false
set_option autoImplicit false
set_option maxRecDepth 100000
set_option maxHeartbeats 4000000
namespace DL
open PySem L2
local macro_rules | `(tactic| walk_at "vc") => `(tactic| simp (maxSteps := 1000000) only [sNext, sSeq, sBreak, sCont, sDrop, sRet, sRetN, sIf, sSet, sAsg, sPar, sApp, sPutS, sPut, sAug, resOf, putV, putAll, setC,
  dVar, vlOf, dC, dFz, setD, dOp, dOpV, dOpL, dChain, dTe, dtAnd, dtOr, dtNot, dAnd, dOr, dNot, dIf, dNeg, dIsi, dTup, dLst, dB, dBL, dCall, lenS, fNil, fCons, aNil, aCons, mCons, hName, hTup, hNil, hCons, hOwn,
  rd, slotD, Sl.it, Sl.mu, argsOf, argOf, oneB, noB, Sl.isB, firstV, putB, resV, endD, exitB, entD, Vl.old, wipeD, backD, keepD,
  bAddU, bModP, bDivP, bMulU, bPow, bSub, bAdd, bLt, bLe, bGt, bGe, bEqU, bNeU, bEq, bNe, I2, bIx, bLen, bTuple, bListOf, bAll, bAny, bSum, bMax2, bMin2, bDivmod, bRepr, iSeqU, iRange1, iRange2, iEnumU, sFor, dLc,
  vls_nil, vls_cons, isIntD, isBoolD, isTupD, isStrD, isListD, isDictD, nd_int, nd_bool, nd_str, nd_none, nd_tup, nd_list, nd_nil, nd_cons, sh_int, sh_bool, sh_none, eqv_int, eqv_str, sz_eq, CDiv, bnd,
  List.map_cons, List.map_nil, List.length_cons, List.length_nil, List.replicate_succ, List.replicate_zero, List.cons_append, List.nil_append, List.getElem?_cons_zero, List.getElem?_cons_succ, List.set_cons_zero, List.set_cons_succ, List.all_cons, List.all_nil,
  Option.some.injEq, Sl.d.injEq, Sl.b.injEq, Sl.l.injEq, Vl.d.injEq, Vl.n.injEq, Vl.v.injEq, PyData.int.injEq, PyData.bool.injEq, PyData.str.injEq, PyData.list.injEq, PyData.tuple.injEq, List.cons.injEq, reduceCtorEq,
  exists_eq_left', exists_eq_left, exists_eq_right', exists_eq_right, exists_and_left, exists_and_right, exists_eq, forall_const, implies_true, Int.reducePow, Int.reduceNeg, exists_eq', at0, at1, at2, at3, at4, ix30, ix31, ix32, exists_const, and_true, true_and, and_false, false_and, ne_eq, not_false_eq_true, not_true_eq_false, and_self, and_assoc, false_or, or_false, true_or, or_true, Nat.reduceAdd, Nat.reduceSub, Nat.reduceLeDiff, Int.reduceLT, Int.reduceLE, Int.reduceToNat, Bool.and_true, Bool.true_and, Bool.not_true, Bool.not_false, Bool.and_false, Bool.false_and,
  decide_eq_true_eq, decide_true, decide_false, Bool.and_eq_true, Bool.not_eq_true, Bool.not_eq_true', decide_eq_false_iff_not, ite_true, ite_false, if_true, if_false, Bool.false_eq_true, ↓reduceIte, List.mem_cons, List.not_mem_nil, forall_eq_or_imp, forall_eq, Nat.sub_self, Nat.add_one_sub_one, Nat.zero_add])
def S_law_weave : DSpec := fun as P _ => ∃ p, as = [.b p] ∧ Pen p ∧ ∀ p' w bs, Pen p' → WOk w bs → P (.d (wv w bs)) (some p')
theorem vc_law_weave : ∀ as Q PX, S_law_weave as Q PX → g_law_weave S_law_draw S_law_pick (endD as Q) (entD 4 as) := by
  rintro as Q PX ⟨p, rfl, hp, q⟩
  unfold g_law_weave S_law_draw S_law_pick
  walk_at "vc"
  refine ⟨hp, fun p1 w hp1 w0 w1 => ⟨hp1, fun p2 m hp2 m0 m1 => ⟨by omega, by omega, ?_⟩⟩⟩
  refine for_rng (fun i r => ∃ (p : PyData) (bs : List Int) (x : Option Sl), r = [some (.b p), some (.d (.int (1 + w))), some (.l (.list (bs.map .int))), x] ∧ Pen p ∧ bs.length = i ∧ ∀ b ∈ bs, 1 ≤ b ∧ b ≤ 60) ⟨p2, [], none, rfl, hp2, rfl, by simp⟩ ?_ ?_
  · rintro i r hi ⟨p, bs, x, rfl, hp, hl, hb⟩
    walk_at "vc"
    refine ⟨hp, by decide, by decide, fun p1 y hp1 hy => ?_⟩
    have : ∃ z : Int, y = .int z ∧ 4 ≤ z ∧ z ≤ 60 := by
      rcases hy with rfl | rfl | rfl
      · exact ⟨4, rfl, by decide, by decide⟩
      · exact ⟨20, rfl, by decide, by decide⟩
      · exact ⟨60, rfl, by decide, by decide⟩
    obtain ⟨z, rfl, z0, z1⟩ := this
    refine ⟨z, rfl, hp1, by omega, by omega, fun p2 e hp2 e0 e1 => ⟨by rw [List.length_map]; omega, ⟨bs ++ [1 + e], by simp, hp2, by simp [hl], ?_⟩⟩⟩
    intro b hb'
    rcases List.mem_append.mp hb' with hb' | hb'
    · exact hb b hb'
    · rw [List.mem_singleton.mp hb']
      omega
  · rintro r ⟨p, bs, x, rfl, hp, hl, hb⟩
    walk_at "vc"
    refine q _ (1 + w) bs hp ⟨by omega, by omega, by omega, by omega, hb⟩
/-- the spots of the walk -/
def spots (w : Int) (n : Nat) : List PyData := (List.range n).map fun i => lies w (i : Nat)
def S_law_walk : DSpec := fun as P _ => ∃ w n : Int, as = [.d (.int w), .d (.int n)] ∧ 0 < w ∧ w < 100 ∧ 0 ≤ n ∧ n < 1000 ∧ P (.l (.list (spots w n.toNat))) none
theorem lies_next {w : Int} {i : Nat} (w0 : 0 < w) :
    (((i : Nat) : Int) % w + 1 < w → ((i + 1 : Nat) : Int) / w = ((i : Nat) : Int) / w ∧ ((i + 1 : Nat) : Int) % w = ((i : Nat) : Int) % w + 1) ∧
    (¬ ((i : Nat) : Int) % w + 1 < w → ((i + 1 : Nat) : Int) / w = ((i : Nat) : Int) / w + 1 ∧ ((i + 1 : Nat) : Int) % w = 0 ∧ ((i : Nat) : Int) % w = w - 1) := by
  have e := Int.mul_ediv_add_emod ((i : Nat) : Int) w
  have b0 := Int.emod_nonneg ((i : Nat) : Int) (show w ≠ 0 by omega)
  have b1 := Int.emod_lt_of_pos ((i : Nat) : Int) w0
  constructor
  · intro h
    have : ((i + 1 : Nat) : Int) = (((i : Nat) : Int) % w + 1) + w * (((i : Nat) : Int) / w) := by omega
    rw [this, Int.add_mul_ediv_left _ _ (by omega), Int.add_mul_emod_self_left, Int.ediv_eq_zero_of_lt (by omega) h, Int.emod_eq_of_lt (by omega) h]
    omega
  · intro h
    have h' : ((i : Nat) : Int) % w = w - 1 := by omega
    have : ((i + 1 : Nat) : Int) = 0 + w * (((i : Nat) : Int) / w + 1) := by
      rw [Int.mul_add]
      omega
    rw [this, Int.add_mul_ediv_left _ _ (by omega), Int.add_mul_emod_self_left]
    simp
    omega
theorem vc_law_walk : ∀ as Q PX, S_law_walk as Q PX → g_law_walk (endD as Q) (entD 7 as) := by
  rintro as Q PX ⟨w, n, rfl, w0, w1, n0, n1, q⟩
  unfold g_law_walk
  walk_at "vc"
  refine ⟨by omega, by omega, ?_⟩
  refine for_rng (fun i r => ∃ (x : Option Sl) (pk en wy : Int), pk = ((i : Nat) : Int) / w ∧ en = (if ((i : Nat) : Int) / w % 2 = 0 then ((i : Nat) : Int) % w else w - 1 - ((i : Nat) : Int) % w) ∧ wy = (if ((i : Nat) : Int) / w % 2 = 0 then 1 else -1) ∧
    r = [some (.d (.int w)), some (.d (.int n)), some (.l (.list (spots w i))), some (.d (.int pk)), some (.d (.int en)), some (.d (.int wy)), x]) ⟨none, _, _, _, rfl, rfl, rfl, by simp [spots, Int.zero_ediv]⟩ ?_ ?_
  · rintro i r hi ⟨x, pk, en, wy, e1, e2, e3, rfl⟩
    walk_at "vc"
    have sp : spots w i ++ [lies w (i : Nat)] = spots w (i + 1) := by unfold spots; rw [List.range_succ, List.map_append]; rfl
    have sl : (spots w i).length = i := by unfold spots; simp
    have e4 : PyData.tuple [.int pk, .int en] = lies w (i : Nat) := by rw [e1, e2]; rfl
    have b0 := Int.emod_nonneg ((i : Nat) : Int) (show w ≠ 0 by omega)
    have b1 := Int.emod_lt_of_pos ((i : Nat) : Int) w0
    obtain ⟨n1, n2⟩ := lies_next (i := i) w0
    rw [sl, e4, sp]
    refine ⟨by omega, ?_⟩
    by_cases hev : ((i : Nat) : Int) / w % 2 = 0
    · rw [if_pos hev] at e2 e3
      by_cases hn : ((i : Nat) : Int) % w + 1 < w
      · obtain ⟨m1, m2⟩ := n1 hn
        rw [if_pos (by omega), if_pos (by omega)]
        refine ⟨rfl, by rw [m1, e1], ?_, ?_⟩
        · rw [m1, m2, if_pos hev]; omega
        · rw [m1, if_pos hev]; omega
      · obtain ⟨m1, m2, m3⟩ := n2 hn
        rw [if_pos (by omega), if_neg (by omega)]
        refine ⟨rfl, by rw [m1, e1], ?_, ?_⟩
        · rw [m1, m2, if_neg (by omega)]; omega
        · rw [m1, if_neg (by omega)]; omega
    · rw [if_neg hev] at e2 e3
      by_cases hn : ((i : Nat) : Int) % w + 1 < w
      · obtain ⟨m1, m2⟩ := n1 hn
        rw [if_pos (by omega), if_pos (by omega)]
        refine ⟨rfl, by rw [m1, e1], ?_, ?_⟩
        · rw [m1, m2, if_neg hev]; omega
        · rw [m1, if_neg hev]; omega
      · obtain ⟨m1, m2, m3⟩ := n2 hn
        rw [if_neg (by omega)]
        refine ⟨rfl, by rw [m1, e1], ?_, ?_⟩
        · rw [m1, m2, if_pos (by omega)]; omega
        · rw [m1, if_pos (by omega)]; omega
  · rintro r ⟨x, pk, en, wy, e1, e2, e3, rfl⟩
    walk_at "vc"
    exact q
/-- the spools from the i-th bobbin on -/
def spool (i : Nat) (b : Int) : List PyData := (rngL 0 b.toNat).map fun k => .tuple [.int (i : Nat), k]
def spools : Nat → List Int → List PyData
  | _, [] => []
  | i, b :: bs => spool i b ++ spools (i + 1) bs
theorem atD_nat {xs : List PyData} {i : Nat} {x : PyData} (h : xs[i]? = some x) : atD xs (i : Nat) = some x := by
  have hi := (List.getElem?_eq_some_iff.mp h).1
  unfold atD ixN
  rw [if_pos (by omega), if_pos (by omega)]
  exact h
theorem spools_nil (i : Nat) : spools i [] = [] := rfl
theorem spools_cons (i : Nat) (b : Int) (bs : List Int) : spools i (b :: bs) = spool i b ++ spools (i + 1) bs := rfl
theorem spool_len (i : Nat) (b : Int) : (spool i b).length = b.toNat := by unfold spool; rw [List.length_map, rng_len]
theorem spools_len : ∀ (i : Nat) (bs : List Int), (∀ x ∈ bs, 1 ≤ x ∧ x ≤ 60) → ((spools i bs).length : Int) = bs.sum
  | _, [], _ => rfl
  | i, b :: bs, h => by
    unfold spools
    have h1 := h b List.mem_cons_self
    rw [List.length_append, spool_len, List.sum_cons, ← spools_len (i + 1) bs fun x hx => h x (List.mem_cons_of_mem _ hx)]
    omega
theorem spools_at : ∀ (i : Nat) (bs : List Int) (n : Int), (∀ x ∈ bs, 1 ≤ x ∧ x ≤ 60) → 0 ≤ n → n < bs.sum → (spools i bs)[n.toNat]? = some (bobb i bs n)
  | _, [], n, _, h0, h1 => by simp at h1; omega
  | i, b :: bs, n, h, h0, h1 => by
    have hb := h b List.mem_cons_self
    rw [List.sum_cons] at h1
    unfold spools bobb
    by_cases hn : n < b
    · rw [if_pos hn, List.getElem?_append_left (by rw [spool_len]; omega)]
      unfold spool rngL
      rw [List.getElem?_map, List.getElem?_map, List.getElem?_range (by omega)]
      show some (PyData.tuple [.int (i : Nat), .int (0 + (n.toNat : Nat))]) = _
      rw [show (0 : Int) + (n.toNat : Nat) = n by omega]
    · rw [if_neg hn, List.getElem?_append_right (by rw [spool_len]; omega), spool_len]
      have := spools_at (i + 1) bs (n - b) (fun x hx => h x (List.mem_cons_of_mem _ hx)) (by omega) (by omega)
      rw [← this]
      congr 1
      omega
theorem wv_ok {w : Int} {bs : List Int} (h : WOk w bs) : OkR (wv w bs) := by
  have h1 := h.w1
  have h2 := h.w2
  have h3 := h.l2
  refine okR_of 64 ?_ ?_ ?_
  · unfold wv
    rw [ib_tup, ibs_cons, ibs_cons, ib_int ⟨by omega, by omega⟩, ib_tup, ibs_map 64 PyData.int fun x hx => ib_int ⟨by have := h.b x hx; omega, by have := h.b x hx; omega⟩, ibs_nil]
    rfl
  · unfold wv
    have := depths_map 0 PyData.int (xs := bs) fun x _ => Nat.le_of_eq (dp_int x)
    rw [dp_tup, dp_cons, dp_cons, dp_tup, dp_nil, dp_int]
    omega
  · unfold wv
    have := nodess_map 1 PyData.int (xs := bs) fun x _ => Nat.le_of_eq (nodes_int x)
    rw [nodes_tup, nodes_cons, nodes_cons, nodes_tup, nodes_nil, nodes_int]
    omega
theorem bobb_is : ∀ (i : Nat) (bs : List Int) (n : Int), (∀ x ∈ bs, 1 ≤ x ∧ x ≤ 60) → 0 ≤ n → n < bs.sum → ∃ a b : Int, bobb i bs n = .tuple [.int a, .int b] ∧ 0 ≤ a ∧ a ≤ i + bs.length ∧ 0 ≤ b ∧ b ≤ n
  | _, [], n, _, h0, h1 => by simp at h1; omega
  | i, b :: bs, n, h, h0, h1 => by
    rw [List.sum_cons] at h1
    have hb := h b List.mem_cons_self
    unfold bobb
    by_cases hn : n < b
    · rw [if_pos hn]
      exact ⟨_, _, rfl, by omega, by omega, h0, Int.le_refl n⟩
    · rw [if_neg hn]
      obtain ⟨a, c, e, a0, a1, c0, c1⟩ := bobb_is (i + 1) bs (n - b) (fun x hx => h x (List.mem_cons_of_mem _ hx)) (by omega) (by omega)
      exact ⟨a, c, e, a0, by rw [List.length_cons]; omega, c0, by omega⟩
theorem vals_ok {a b c d : Int} (ha : -(2 ^ 63) < a ∧ a < 2 ^ 63) (hb : -(2 ^ 63) < b ∧ b < 2 ^ 63) (hc : -(2 ^ 63) < c ∧ c < 2 ^ 63) (hd : -(2 ^ 63) < d ∧ d < 2 ^ 63) : OkR (.list [.tuple [.int a, .int b], .tuple [.int c, .int d]]) := by
  refine okR_of 64 ?_ ?_ ?_
  · rw [ib_list, ibs_cons, ibs_cons, ib_tup, ib_tup, ibs_cons, ibs_cons, ibs_cons, ibs_cons, ibs_nil, ib_int ha, ib_int hb, ib_int hc, ib_int hd]
    rfl
  · rw [dp_list, dp_cons, dp_cons, dp_tup, dp_tup, dp_cons, dp_cons, dp_cons, dp_cons, dp_nil, dp_int, dp_int, dp_int, dp_int]
    decide
  · rw [nodes_list, nodes_cons, nodes_cons, nodes_tup, nodes_tup, nodes_cons, nodes_cons, nodes_cons, nodes_cons, nodes_nil, nodes_int, nodes_int, nodes_int, nodes_int]
    decide
def S_law_right : DSpec := fun as P _ => ∃ p, as = [.b p] ∧ Pen p ∧ ∀ p', Pen p' → P (.d (.bool true)) (some p')
theorem vc_law_right : ∀ as Q PX, S_law_right as Q PX → g_law_right S_law_weave S_law_walk S_law_same S_lies_at S_bobbin_at (endD as Q) (entD 10 as) := by
  rintro as Q PX ⟨p, rfl, hp, q⟩
  unfold g_law_right S_law_weave S_law_walk S_law_same S_lies_at S_bobbin_at
  walk_at "vc"
  refine ⟨hp, fun p w bs hp ok => ⟨wv_ok ok, ?_⟩⟩
  have hok := wv_ok ok
  have hlen := spools_len 0 bs ok.b
  have hsum := sum_bound ok.b
  have hl2 := ok.l2
  have hw1 := ok.w1
  have hw2 := ok.w2
  unfold wv
  walk_at "vc"
  refine for_enum (fun i r => ∃ (xs : List PyData) (x4 x5 : Option Sl), r = [some (.b p), some (.d (wv w bs)), some (.d (.str (wv w bs).shown)), some (.l (.list xs)), x4, x5, none, none, none, none] ∧ xs ++ spools i (bs.drop i) = spools 0 bs) ⟨[], none, none, rfl, rfl⟩ ?_ ?_
  · rintro i x r hx hi ⟨xs, x4, x5, rfl, e⟩
    rw [List.length_map] at hi
    have hd := List.drop_eq_getElem_cons hi
    rw [List.getElem?_map, List.getElem?_eq_getElem hi] at hx
    cases hx
    generalize hb : bs[i] = b at hd
    have hbb := ok.b b (by rw [← hb]; exact List.getElem_mem _)
    rw [hd, spools_cons] at e
    have h3 := congrArg List.length e
    rw [List.length_append, List.length_append, spool_len] at h3
    walk_at "vc"
    refine ⟨by omega, by omega, lc_map (fun k => .tuple [.int (i : Nat), k]) (by rw [rng_len, sz_eq]; omega) (fun y hy A hA => ?_) ?_⟩
    · walk_at "vc"
      exact hA
    · walk_at "vc"
      refine ⟨?_, ?_⟩
      · rw [List.length_map, rng_len]; omega
      · rw [List.append_assoc]
        exact e
  · rintro r ⟨xs, x4, x5, rfl, e⟩
    rw [List.length_map, List.drop_length] at e
    rw [spools_nil, List.append_nil] at e
    rw [e]
    unfold wv
    walk_at "vc"
    refine ⟨by omega, by omega, by omega, by omega, ?_⟩
    refine for_enum (fun i r => ∃ (x4 x5 x6 x7 x8 : Option Sl), r = [some (.b p), some (.d (wv w bs)), some (.d (.str (wv w bs).shown)), some (.l (.list (spools 0 bs))), x4, x5, x6, x7, x8, none]) ⟨_, _, _, _, _, rfl⟩ ?_ ?_
    · rintro i x r hx hi ⟨x4, x5, x6, x7, x8, rfl⟩
      have hi2 : i < (spools 0 bs).length := by
        unfold spots at hi
        rw [List.length_map, List.length_range] at hi
        omega
      have hx2 : x = lies w (i : Nat) := by
        unfold spots at hx
        rw [List.getElem?_map, List.getElem?_range (by omega)] at hx
        exact (Option.some.inj hx).symm
      subst hx2
      walk_at "vc"
      refine for_any (fun r => ∃ (x4 x5 x8 : Option Sl), r = [some (.b p), some (.d (wv w bs)), some (.d (.str (wv w bs).shown)), some (.l (.list (spools 0 bs))), x4, x5, some (.d (.int (i : Nat))), some (.d (lies w (i : Nat))), x8, none]) ⟨_, _, _, rfl⟩ ?_ ?_
      · rintro y r hy ⟨x4, x5, x8, rfl⟩
        walk_at "vc"
        have at_i := spools_at 0 bs (i : Nat) ok.b (by omega) (by omega)
        obtain ⟨a, b, eb, a0, a1, b0, b1⟩ := bobb_is 0 bs (i : Nat) ok.b (by omega) (by omega)
        have hv : OkR (.list [lies w (i : Nat), bobb 0 bs (i : Nat)]) := by
          rw [eb]
          unfold lies
          have e1 := Int.ediv_le_self (a := ((i : Nat) : Int)) w (by omega)
          have e2 := Int.ediv_nonneg (a := ((i : Nat) : Int)) (b := w) (by omega) (by omega)
          have e3 := Int.emod_nonneg ((i : Nat) : Int) (show w ≠ 0 by omega)
          have e4 := Int.emod_lt_of_pos ((i : Nat) : Int) (show 0 < w by omega)
          refine vals_ok ⟨by omega, by omega⟩ ?_ ⟨by omega, by omega⟩ ⟨by omega, by omega⟩
          split <;> exact ⟨by omega, by omega⟩
        refine ⟨w, bs, rfl, ok, by omega, by omega, w, bs, rfl, ok, by omega, by omega, _, atD_nat (by rw [← at_i]; rfl), hv, hv, ?_⟩
        rw [if_neg (fun h => h rfl)]
        trivial
      · rintro r ⟨x4, x5, x8, rfl⟩
        exact ⟨_, _, _, _, _, rfl⟩
    · rintro r ⟨x4, x5, x6, x7, x8, rfl⟩
      walk_at "vc"
      exact ⟨hok, q _ hp⟩
theorem vc_law : ∀ as Q PX, S_law as Q PX → g_law S_law_pen S_law_right (endD as Q) (entD 4 as) := by
  rintro as Q PX ⟨ns, rfl, hl, q⟩
  unfold g_law S_law_pen S_law_right
  walk_at "vc"
  have hb : ∀ x : Int, 0 ≤ x → x ≤ 63 → -(4611686018427387904 : Int) ≤ (if (if 4 < x then 4 else x) > 1 then (if 4 < x then 4 else x) else 1) ∧ (if (if 4 < x then 4 else x) > 1 then (if 4 < x then 4 else x) else 1) < 4611686018427387904 := by
    intro x h0 h1
    split <;> split <;> omega
  have := hb ((ns.map PyData.int).length : Nat) (by omega) (by rw [List.length_map]; omega)
  refine ⟨this.1, this.2, ?_⟩
  refine for_rng (fun i r => ∃ (x y : Option Sl) (z : Option Sl), r = [some (.d (.list (ns.map .int))), x, y, z]) ⟨_, _, _, rfl⟩ ?_ ?_
  · rintro i r hi ⟨x, y, z, rfl⟩
    walk_at "vc"
    refine ⟨⟨ns, rfl⟩, by omega, fun p hp => ?_⟩
    refine for_any (fun r => ∃ (p : PyData) (x z : Option Sl), r = [some (.d (.list (ns.map .int))), x, some (.l p), z] ∧ Pen p) ⟨_, _, _, rfl, hp⟩ ?_ ?_
    · rintro x r hx ⟨p, x1, z, rfl, hp⟩
      walk_at "vc"
      refine ⟨hp, fun p' hp' => ?_⟩
      exact hp'
    · rintro r ⟨p, x1, z, rfl, hp⟩
      exact ⟨_, _, _, rfl⟩
  · rintro r ⟨x, y, z, rfl⟩
    walk_at "vc"
    exact q
end DL
namespace DL
open PySem PySem.Spec PyProof.Rows L2
theorem all_mk {l : PySem.W.OpenLaw} {w : World} {K : PySem.W.Frag} {h : Heap} {mg : Str → Option Value} {fa : Addr} (X : K.In h) (G : h.Ns mainGlobals mg) (hfa : mg "law" = some (.ref fa))
    {f1 f2 f3 f4 f5 f6 f7 f8 f9 f10 f11 f12 f13 f14 f15 f16 f17 f18 f19 : Addr} {od1 an1 od2 an2 od3 an3 od4 an4 od5 an5 od6 an6 od7 an7 od8 an8 od9 an9 od10 an10 od11 an11 od12 an12 od13 an13 od14 an14 od15 an15 od16 an16 od17 an17 od18 an18 od19 an19 : Option Addr} {sl1 sl2 sl3 sl4 sl5 sl6 sl7 sl8 sl9 sl10 sl11 sl12 sl13 sl14 sl15 sl16 sl17 sl18 sl19 : Array (Option Value)} {oc1 kV1 dc1 pm1 cd1 ct1 oc2 kV2 dc2 pm2 cd2 ct2 oc3 kV3 dc3 pm3 cd3 ct3 oc4 kV4 dc4 pm4 cd4 ct4 oc5 kV5 dc5 pm5 cd5 ct5 oc6 kV6 dc6 pm6 cd6 ct6 oc7 kV7 dc7 pm7 cd7 ct7 oc8 kV8 dc8 pm8 cd8 ct8 oc9 kV9 dc9 pm9 cd9 ct9 oc10 kV10 dc10 pm10 cd10 ct10 oc11 kV11 dc11 pm11 cd11 ct11 oc12 kV12 dc12 pm12 cd12 ct12 oc13 kV13 dc13 pm13 cd13 ct13 oc14 kV14 dc14 pm14 cd14 ct14 oc15 kV15 dc15 pm15 cd15 ct15 oc16 kV16 dc16 pm16 cd16 ct16 oc17 kV17 dc17 pm17 cd17 ct17 oc18 kV18 dc18 pm18 cd18 ct18 oc19 kV19 dc19 pm19 cd19 ct19 : Value}
    (a1 : PySem.W.nsIn K mainGlobals "is_whole" = some (some (.ref f1))) (l1 : K.lookup f1 = some ⟨oc1, od1, .func (PySem.W.fnOf "is_whole" "is_whole" (defArgs st_is_whole) (defBody st_is_whole) (defScope st_is_whole) .none kV1 dc1 pm1 an1 cd1 ct1), sl1⟩) (c1 : PySem.W.codeIn K cd1 "is_whole" = true) (k1 : PySem.W.keepIn K (.ref f1) = true)
    (a2 : PySem.W.nsIn K mainGlobals "is_within" = some (some (.ref f2))) (l2 : K.lookup f2 = some ⟨oc2, od2, .func (PySem.W.fnOf "is_within" "is_within" (defArgs st_is_within) (defBody st_is_within) (defScope st_is_within) .none kV2 dc2 pm2 an2 cd2 ct2), sl2⟩) (c2 : PySem.W.codeIn K cd2 "is_within" = true) (k2 : PySem.W.keepIn K (.ref f2) = true)
    (a3 : PySem.W.nsIn K mainGlobals "is_long" = some (some (.ref f3))) (l3 : K.lookup f3 = some ⟨oc3, od3, .func (PySem.W.fnOf "is_long" "is_long" (defArgs st_is_long) (defBody st_is_long) (defScope st_is_long) .none kV3 dc3 pm3 an3 cd3 ct3), sl3⟩) (c3 : PySem.W.codeIn K cd3 "is_long" = true) (k3 : PySem.W.keepIn K (.ref f3) = true)
    (a4 : PySem.W.nsIn K mainGlobals "is_weave" = some (some (.ref f4))) (l4 : K.lookup f4 = some ⟨oc4, od4, .func (PySem.W.fnOf "is_weave" "is_weave" (defArgs st_is_weave) (defBody st_is_weave) (defScope st_is_weave) .none kV4 dc4 pm4 an4 cd4 ct4), sl4⟩) (c4 : PySem.W.codeIn K cd4 "is_weave" = true) (k4 : PySem.W.keepIn K (.ref f4) = true)
    (a5 : PySem.W.nsIn K mainGlobals "need_weave" = some (some (.ref f5))) (l5 : K.lookup f5 = some ⟨oc5, od5, .func (PySem.W.fnOf "need_weave" "need_weave" (defArgs st_need_weave) (defBody st_need_weave) (defScope st_need_weave) .none kV5 dc5 pm5 an5 cd5 ct5), sl5⟩) (c5 : PySem.W.codeIn K cd5 "need_weave" = true) (k5 : PySem.W.keepIn K (.ref f5) = true)
    (a6 : PySem.W.nsIn K mainGlobals "many_places" = some (some (.ref f6))) (l6 : K.lookup f6 = some ⟨oc6, od6, .func (PySem.W.fnOf "many_places" "many_places" (defArgs st_many_places) (defBody st_many_places) (defScope st_many_places) .none kV6 dc6 pm6 an6 cd6 ct6), sl6⟩) (c6 : PySem.W.codeIn K cd6 "many_places" = true) (k6 : PySem.W.keepIn K (.ref f6) = true)
    (a7 : PySem.W.nsIn K mainGlobals "need_place" = some (some (.ref f7))) (l7 : K.lookup f7 = some ⟨oc7, od7, .func (PySem.W.fnOf "need_place" "need_place" (defArgs st_need_place) (defBody st_need_place) (defScope st_need_place) .none kV7 dc7 pm7 an7 cd7 ct7), sl7⟩) (c7 : PySem.W.codeIn K cd7 "need_place" = true) (k7 : PySem.W.keepIn K (.ref f7) = true)
    (a8 : PySem.W.nsIn K mainGlobals "lies_by" = some (some (.ref f8))) (l8 : K.lookup f8 = some ⟨oc8, od8, .func (PySem.W.fnOf "lies_by" "lies_by" (defArgs st_lies_by) (defBody st_lies_by) (defScope st_lies_by) .none kV8 dc8 pm8 an8 cd8 ct8), sl8⟩) (c8 : PySem.W.codeIn K cd8 "lies_by" = true) (k8 : PySem.W.keepIn K (.ref f8) = true)
    (a9 : PySem.W.nsIn K mainGlobals "lies_at" = some (some (.ref f9))) (l9 : K.lookup f9 = some ⟨oc9, od9, .func (PySem.W.fnOf "lies_at" "lies_at" (defArgs st_lies_at) (defBody st_lies_at) (defScope st_lies_at) .none kV9 dc9 pm9 an9 cd9 ct9), sl9⟩) (c9 : PySem.W.codeIn K cd9 "lies_at" = true) (k9 : PySem.W.keepIn K (.ref f9) = true)
    (a10 : PySem.W.nsIn K mainGlobals "bobbin_at" = some (some (.ref f10))) (l10 : K.lookup f10 = some ⟨oc10, od10, .func (PySem.W.fnOf "bobbin_at" "bobbin_at" (defArgs st_bobbin_at) (defBody st_bobbin_at) (defScope st_bobbin_at) .none kV10 dc10 pm10 an10 cd10 ct10), sl10⟩) (c10 : PySem.W.codeIn K cd10 "bobbin_at" = true) (k10 : PySem.W.keepIn K (.ref f10) = true)
    (a11 : PySem.W.nsIn K mainGlobals "_law_cell_at" = some (some (.ref f11))) (l11 : K.lookup f11 = some ⟨oc11, od11, .func (PySem.W.fnOf "_law_cell_at" "_law_cell_at" (defArgs st_law_cell_at) (defBody st_law_cell_at) (defScope st_law_cell_at) .none kV11 dc11 pm11 an11 cd11 ct11), sl11⟩) (c11 : PySem.W.codeIn K cd11 "_law_cell_at" = true) (k11 : PySem.W.keepIn K (.ref f11) = true)
    (a12 : PySem.W.nsIn K mainGlobals "_law_pen" = some (some (.ref f12))) (l12 : K.lookup f12 = some ⟨oc12, od12, .func (PySem.W.fnOf "_law_pen" "_law_pen" (defArgs st_law_pen) (defBody st_law_pen) (defScope st_law_pen) .none kV12 dc12 pm12 an12 cd12 ct12), sl12⟩) (c12 : PySem.W.codeIn K cd12 "_law_pen" = true) (k12 : PySem.W.keepIn K (.ref f12) = true)
    (a13 : PySem.W.nsIn K mainGlobals "_law_draw" = some (some (.ref f13))) (l13 : K.lookup f13 = some ⟨oc13, od13, .func (PySem.W.fnOf "_law_draw" "_law_draw" (defArgs st_law_draw) (defBody st_law_draw) (defScope st_law_draw) .none kV13 dc13 pm13 an13 cd13 ct13), sl13⟩) (c13 : PySem.W.codeIn K cd13 "_law_draw" = true) (k13 : PySem.W.keepIn K (.ref f13) = true)
    (a14 : PySem.W.nsIn K mainGlobals "_law_pick" = some (some (.ref f14))) (l14 : K.lookup f14 = some ⟨oc14, od14, .func (PySem.W.fnOf "_law_pick" "_law_pick" (defArgs st_law_pick) (defBody st_law_pick) (defScope st_law_pick) .none kV14 dc14 pm14 an14 cd14 ct14), sl14⟩) (c14 : PySem.W.codeIn K cd14 "_law_pick" = true) (k14 : PySem.W.keepIn K (.ref f14) = true)
    (a15 : PySem.W.nsIn K mainGlobals "_law_same" = some (some (.ref f15))) (l15 : K.lookup f15 = some ⟨oc15, od15, .func (PySem.W.fnOf "_law_same" "_law_same" (defArgs st_law_same) (defBody st_law_same) (defScope st_law_same) .none kV15 dc15 pm15 an15 cd15 ct15), sl15⟩) (c15 : PySem.W.codeIn K cd15 "_law_same" = true) (k15 : PySem.W.keepIn K (.ref f15) = true)
    (a16 : PySem.W.nsIn K mainGlobals "_law_weave" = some (some (.ref f16))) (l16 : K.lookup f16 = some ⟨oc16, od16, .func (PySem.W.fnOf "_law_weave" "_law_weave" (defArgs st_law_weave) (defBody st_law_weave) (defScope st_law_weave) .none kV16 dc16 pm16 an16 cd16 ct16), sl16⟩) (c16 : PySem.W.codeIn K cd16 "_law_weave" = true) (k16 : PySem.W.keepIn K (.ref f16) = true)
    (a17 : PySem.W.nsIn K mainGlobals "_law_walk" = some (some (.ref f17))) (l17 : K.lookup f17 = some ⟨oc17, od17, .func (PySem.W.fnOf "_law_walk" "_law_walk" (defArgs st_law_walk) (defBody st_law_walk) (defScope st_law_walk) .none kV17 dc17 pm17 an17 cd17 ct17), sl17⟩) (c17 : PySem.W.codeIn K cd17 "_law_walk" = true) (k17 : PySem.W.keepIn K (.ref f17) = true)
    (a18 : PySem.W.nsIn K mainGlobals "_law_right" = some (some (.ref f18))) (l18 : K.lookup f18 = some ⟨oc18, od18, .func (PySem.W.fnOf "_law_right" "_law_right" (defArgs st_law_right) (defBody st_law_right) (defScope st_law_right) .none kV18 dc18 pm18 an18 cd18 ct18), sl18⟩) (c18 : PySem.W.codeIn K cd18 "_law_right" = true) (k18 : PySem.W.keepIn K (.ref f18) = true)
    (a19 : PySem.W.nsIn K mainGlobals "law" = some (some (.ref f19))) (l19 : K.lookup f19 = some ⟨oc19, od19, .func (PySem.W.fnOf "law" "law" (defArgs st_law) (defBody st_law) (defScope st_law) .none kV19 dc19 pm19 an19 cd19 ct19), sl19⟩) (c19 : PySem.W.codeIn K cd19 "law" = true) (k19 : PySem.W.keepIn K (.ref f19) = true)
    (z_isinstance : PySem.W.nsIn K mainGlobals "isinstance" = some none)
    (z_int : PySem.W.nsIn K mainGlobals "int" = some none)
    (z_bool : PySem.W.nsIn K mainGlobals "bool" = some none)
    (z_tuple : PySem.W.nsIn K mainGlobals "tuple" = some none)
    (z_len : PySem.W.nsIn K mainGlobals "len" = some none)
    (z_all : PySem.W.nsIn K mainGlobals "all" = some none)
    (z_sum : PySem.W.nsIn K mainGlobals "sum" = some none)
    (z_divmod : PySem.W.nsIn K mainGlobals "divmod" = some none)
    (z_enumerate : PySem.W.nsIn K mainGlobals "enumerate" = some none)
    (z_max : PySem.W.nsIn K mainGlobals "max" = some none)
    (z_repr : PySem.W.nsIn K mainGlobals "repr" = some none)
    (z_range : PySem.W.nsIn K mainGlobals "range" = some none)
    (z_min : PySem.W.nsIn K mainGlobals "min" = some none)
    {t_MOST_ENDS : Tok} (v_MOST_ENDS : PySem.W.nsIn K mainGlobals "MOST_ENDS" = some (some (.int 12 t_MOST_ENDS)))
    {t_MOST_BOBBINS : Tok} (v_MOST_BOBBINS : PySem.W.nsIn K mainGlobals "MOST_BOBBINS" = some (some (.int 6 t_MOST_BOBBINS)))
    {t_MOST_YARN : Tok} (v_MOST_YARN : PySem.W.nsIn K mainGlobals "MOST_YARN" = some (some (.int 60 t_MOST_YARN)))
    : ∃ fd : FuncData, (∀ (s : Shared) (v : Value), BindsTo s fd ⟨[v], []⟩ [("_law_script", v)]) ∧ ∀ base : Heap, K.In base → base.Ns mainGlobals mg → FnG l.prog w K mg base 8 fa fd ["_law_script"] (spD K mg 1 (lenS 1 S_law)) := by
  have e := hfa.symm.trans (PySem.W.mg_of X G a19)
  cases e
  have n_isinstance := PySem.W.mg_none_of X G z_isinstance
  have n_int := PySem.W.mg_none_of X G z_int
  have n_bool := PySem.W.mg_none_of X G z_bool
  have n_tuple := PySem.W.mg_none_of X G z_tuple
  have n_len := PySem.W.mg_none_of X G z_len
  have n_all := PySem.W.mg_none_of X G z_all
  have n_sum := PySem.W.mg_none_of X G z_sum
  have n_divmod := PySem.W.mg_none_of X G z_divmod
  have n_enumerate := PySem.W.mg_none_of X G z_enumerate
  have n_max := PySem.W.mg_none_of X G z_max
  have n_repr := PySem.W.mg_none_of X G z_repr
  have n_range := PySem.W.mg_none_of X G z_range
  have n_min := PySem.W.mg_none_of X G z_min
  have k_MOST_ENDS := PySem.W.mg_of X G v_MOST_ENDS
  have k_MOST_BOBBINS := PySem.W.mg_of X G v_MOST_BOBBINS
  have k_MOST_YARN := PySem.W.mg_of X G v_MOST_YARN
  have F1 := fun_mk (st := st_is_whole) l1 c1 k1
  have D1 : Def0 K mg "is_whole" st_is_whole ["thing"] := ⟨_, _, F1, PySem.W.mg_of X G a1, F1.binds (ps := ["thing"]) fun _ _ _ _ _ _ us hl => match us, hl with | [_], _ => rfl⟩
  have F2 := fun_mk (st := st_is_within) l2 c2 k2
  have D2 : Def0 K mg "is_within" st_is_within ["thing", "least", "most"] := ⟨_, _, F2, PySem.W.mg_of X G a2, F2.binds (ps := ["thing", "least", "most"]) fun _ _ _ _ _ _ us hl => match us, hl with | [_, _, _], _ => rfl⟩
  have F3 := fun_mk (st := st_is_long) l3 c3 k3
  have D3 : Def0 K mg "is_long" st_is_long ["thing", "least", "most"] := ⟨_, _, F3, PySem.W.mg_of X G a3, F3.binds (ps := ["thing", "least", "most"]) fun _ _ _ _ _ _ us hl => match us, hl with | [_, _, _], _ => rfl⟩
  have F4 := fun_mk (st := st_is_weave) l4 c4 k4
  have D4 : Def0 K mg "is_weave" st_is_weave ["thing"] := ⟨_, _, F4, PySem.W.mg_of X G a4, F4.binds (ps := ["thing"]) fun _ _ _ _ _ _ us hl => match us, hl with | [_], _ => rfl⟩
  have F5 := fun_mk (st := st_need_weave) l5 c5 k5
  have D5 : Def0 K mg "need_weave" st_need_weave ["thing"] := ⟨_, _, F5, PySem.W.mg_of X G a5, F5.binds (ps := ["thing"]) fun _ _ _ _ _ _ us hl => match us, hl with | [_], _ => rfl⟩
  have F6 := fun_mk (st := st_many_places) l6 c6 k6
  have D6 : Def0 K mg "many_places" st_many_places ["weave"] := ⟨_, _, F6, PySem.W.mg_of X G a6, F6.binds (ps := ["weave"]) fun _ _ _ _ _ _ us hl => match us, hl with | [_], _ => rfl⟩
  have F7 := fun_mk (st := st_need_place) l7 c7 k7
  have D7 : Def0 K mg "need_place" st_need_place ["weave", "thing"] := ⟨_, _, F7, PySem.W.mg_of X G a7, F7.binds (ps := ["weave", "thing"]) fun _ _ _ _ _ _ us hl => match us, hl with | [_, _], _ => rfl⟩
  have F8 := fun_mk (st := st_lies_by) l8 c8 k8
  have D8 : Def0 K mg "lies_by" st_lies_by ["width", "place"] := ⟨_, _, F8, PySem.W.mg_of X G a8, F8.binds (ps := ["width", "place"]) fun _ _ _ _ _ _ us hl => match us, hl with | [_, _], _ => rfl⟩
  have F9 := fun_mk (st := st_lies_at) l9 c9 k9
  have D9 : Def0 K mg "lies_at" st_lies_at ["weave", "place"] := ⟨_, _, F9, PySem.W.mg_of X G a9, F9.binds (ps := ["weave", "place"]) fun _ _ _ _ _ _ us hl => match us, hl with | [_, _], _ => rfl⟩
  have F10 := fun_mk (st := st_bobbin_at) l10 c10 k10
  have D10 : Def0 K mg "bobbin_at" st_bobbin_at ["weave", "place"] := ⟨_, _, F10, PySem.W.mg_of X G a10, F10.binds (ps := ["weave", "place"]) fun _ _ _ _ _ _ us hl => match us, hl with | [_, _], _ => rfl⟩
  have F11 := fun_mk (st := st_law_cell_at) l11 c11 k11
  have D11 : Def0 K mg "_law_cell_at" st_law_cell_at ["_law_script", "_law_k"] := ⟨_, _, F11, PySem.W.mg_of X G a11, F11.binds (ps := ["_law_script", "_law_k"]) fun _ _ _ _ _ _ us hl => match us, hl with | [_, _], _ => rfl⟩
  have F12 := fun_mk (st := st_law_pen) l12 c12 k12
  have D12 : Def0 K mg "_law_pen" st_law_pen ["_law_script", "_law_k"] := ⟨_, _, F12, PySem.W.mg_of X G a12, F12.binds (ps := ["_law_script", "_law_k"]) fun _ _ _ _ _ _ us hl => match us, hl with | [_, _], _ => rfl⟩
  have F13 := fun_mk (st := st_law_draw) l13 c13 k13
  have D13 : Def0 K mg "_law_draw" st_law_draw ["_law_pen_here", "_law_many"] := ⟨_, _, F13, PySem.W.mg_of X G a13, F13.binds (ps := ["_law_pen_here", "_law_many"]) fun _ _ _ _ _ _ us hl => match us, hl with | [_, _], _ => rfl⟩
  have F14 := fun_mk (st := st_law_pick) l14 c14 k14
  have D14 : Def0 K mg "_law_pick" st_law_pick ["_law_pen_here", "_law_some"] := ⟨_, _, F14, PySem.W.mg_of X G a14, F14.binds (ps := ["_law_pen_here", "_law_some"]) fun _ _ _ _ _ _ us hl => match us, hl with | [_, _], _ => rfl⟩
  have F15 := fun_mk (st := st_law_same) l15 c15 k15
  have D15 : Def0 K mg "_law_same" st_law_same ["_law_found", "_law_owed"] := ⟨_, _, F15, PySem.W.mg_of X G a15, F15.binds (ps := ["_law_found", "_law_owed"]) fun _ _ _ _ _ _ us hl => match us, hl with | [_, _], _ => rfl⟩
  have F16 := fun_mk (st := st_law_weave) l16 c16 k16
  have D16 : Def0 K mg "_law_weave" st_law_weave ["_law_pen_here"] := ⟨_, _, F16, PySem.W.mg_of X G a16, F16.binds (ps := ["_law_pen_here"]) fun _ _ _ _ _ _ us hl => match us, hl with | [_], _ => rfl⟩
  have F17 := fun_mk (st := st_law_walk) l17 c17 k17
  have D17 : Def0 K mg "_law_walk" st_law_walk ["_law_width", "_law_many"] := ⟨_, _, F17, PySem.W.mg_of X G a17, F17.binds (ps := ["_law_width", "_law_many"]) fun _ _ _ _ _ _ us hl => match us, hl with | [_, _], _ => rfl⟩
  have F18 := fun_mk (st := st_law_right) l18 c18 k18
  have D18 : Def0 K mg "_law_right" st_law_right ["_law_pen_here"] := ⟨_, _, F18, PySem.W.mg_of X G a18, F18.binds (ps := ["_law_pen_here"]) fun _ _ _ _ _ _ us hl => match us, hl with | [_], _ => rfl⟩
  have F19 := fun_mk (st := st_law) l19 c19 k19
  refine ⟨PySem.W.fnOf "law" "law" (defArgs st_law) (defBody st_law) (defScope st_law) .none kV19 dc19 pm19 an19 cd19 ct19, fun s v => .of_eq rfl, fun base _ _ => ?_⟩
  have C_is_whole := c_is_whole (P := l.prog) (w := w) (base := base) D1 n_isinstance n_int n_bool vc_is_whole
  have C_is_within := c_is_within (P := l.prog) (w := w) (base := base) D2 C_is_whole vc_is_within
  have C_is_long := c_is_long (P := l.prog) (w := w) (base := base) D3 n_isinstance n_tuple n_len vc_is_long
  have C_is_weave := c_is_weave (P := l.prog) (w := w) (base := base) D4 n_all k_MOST_ENDS k_MOST_BOBBINS k_MOST_YARN C_is_long C_is_within vc_is_weave
  have C_need_weave := c_need_weave (P := l.prog) (w := w) (base := base) D5 C_is_weave vc_need_weave
  have C_many_places := c_many_places (P := l.prog) (w := w) (base := base) D6 n_sum vc_many_places
  have C_need_place := c_need_place (P := l.prog) (w := w) (base := base) D7 C_need_weave C_is_within C_many_places vc_need_place
  have C_lies_by := c_lies_by (P := l.prog) (w := w) (base := base) D8 n_divmod vc_lies_by
  have C_lies_at := c_lies_at (P := l.prog) (w := w) (base := base) D9 C_need_place C_lies_by vc_lies_at
  have C_bobbin_at := c_bobbin_at (P := l.prog) (w := w) (base := base) D10 n_enumerate C_need_place vc_bobbin_at
  have C_law_cell_at := c_law_cell_at (P := l.prog) (w := w) (base := base) D11 n_len vc_law_cell_at
  have C_law_pen := c_law_pen (P := l.prog) (w := w) (base := base) D12 n_max C_law_cell_at vc_law_pen
  have C_law_draw := c_law_draw (P := l.prog) (w := w) (base := base) D13  vc_law_draw
  have C_law_pick := c_law_pick (P := l.prog) (w := w) (base := base) D14 n_len C_law_draw vc_law_pick
  have C_law_same := c_law_same (P := l.prog) (w := w) (base := base) D15 n_repr vc_law_same
  have C_law_weave := c_law_weave (P := l.prog) (w := w) (base := base) D16 n_range n_tuple C_law_draw C_law_pick vc_law_weave
  have C_law_walk := c_law_walk (P := l.prog) (w := w) (base := base) D17 n_range vc_law_walk
  have C_law_right := c_law_right (P := l.prog) (w := w) (base := base) D18 n_enumerate n_repr n_range n_len C_law_weave C_law_walk C_law_same C_lies_at C_bobbin_at vc_law_right
  exact l_law F19 n_range n_max n_min n_len C_law_pen C_law_right vc_law
end DL
open PySem PySem.W PyProof.Rows in
set_option maxRecDepth 100000 in
set_option maxHeartbeats 0 in
theorem PySem.Challenge.cw_weftmill_k30_places_of_the_yarn_holds : PySem.Challenge.rw_weftmill_k30_places_of_the_yarn.Holds := by
  w_on; o_law; k_head; (case hw => w_witness2)
  k_fill
  refine DL.walkG (l := PySem.Challenge.rw_weftmill_k30_places_of_the_yarn) (k := 8) (x := "_law_script") rfl rfl ⟨rfl, by decide, by decide⟩ (fun w h Y => PySem.W.kIn_of Y) ?F
  case F =>
    intro w mg fa h KX G hmg
    refine' DL.all_mk KX G hmg ?a1 ?l1 ?c1 ?k1 ?a2 ?l2 ?c2 ?k2 ?a3 ?l3 ?c3 ?k3 ?a4 ?l4 ?c4 ?k4 ?a5 ?l5 ?c5 ?k5 ?a6 ?l6 ?c6 ?k6 ?a7 ?l7 ?c7 ?k7 ?a8 ?l8 ?c8 ?k8 ?a9 ?l9 ?c9 ?k9 ?a10 ?l10 ?c10 ?k10 ?a11 ?l11 ?c11 ?k11 ?a12 ?l12 ?c12 ?k12 ?a13 ?l13 ?c13 ?k13 ?a14 ?l14 ?c14 ?k14 ?a15 ?l15 ?c15 ?k15 ?a16 ?l16 ?c16 ?k16 ?a17 ?l17 ?c17 ?k17 ?a18 ?l18 ?c18 ?k18 ?a19 ?l19 ?c19 ?k19 ?z_isinstance ?z_int ?z_bool ?z_tuple ?z_len ?z_all ?z_sum ?z_divmod ?z_enumerate ?z_max ?z_repr ?z_range ?z_min ?v_MOST_ENDS ?v_MOST_BOBBINS ?v_MOST_YARN
    (case a1 => k_is)
    (case l1 => k_is)
    (case c1 => k_is)
    (case k1 => k_is)
    (case a2 => k_is)
    (case l2 => k_is)
    (case c2 => k_is)
    (case k2 => k_is)
    (case a3 => k_is)
    (case l3 => k_is)
    (case c3 => k_is)
    (case k3 => k_is)
    (case a4 => k_is)
    (case l4 => k_is)
    (case c4 => k_is)
    (case k4 => k_is)
    (case a5 => k_is)
    (case l5 => k_is)
    (case c5 => k_is)
    (case k5 => k_is)
    (case a6 => k_is)
    (case l6 => k_is)
    (case c6 => k_is)
    (case k6 => k_is)
    (case a7 => k_is)
    (case l7 => k_is)
    (case c7 => k_is)
    (case k7 => k_is)
    (case a8 => k_is)
    (case l8 => k_is)
    (case c8 => k_is)
    (case k8 => k_is)
    (case a9 => k_is)
    (case l9 => k_is)
    (case c9 => k_is)
    (case k9 => k_is)
    (case a10 => k_is)
    (case l10 => k_is)
    (case c10 => k_is)
    (case k10 => k_is)
    (case a11 => k_is)
    (case l11 => k_is)
    (case c11 => k_is)
    (case k11 => k_is)
    (case a12 => k_is)
    (case l12 => k_is)
    (case c12 => k_is)
    (case k12 => k_is)
    (case a13 => k_is)
    (case l13 => k_is)
    (case c13 => k_is)
    (case k13 => k_is)
    (case a14 => k_is)
    (case l14 => k_is)
    (case c14 => k_is)
    (case k14 => k_is)
    (case a15 => k_is)
    (case l15 => k_is)
    (case c15 => k_is)
    (case k15 => k_is)
    (case a16 => k_is)
    (case l16 => k_is)
    (case c16 => k_is)
    (case k16 => k_is)
    (case a17 => k_is)
    (case l17 => k_is)
    (case c17 => k_is)
    (case k17 => k_is)
    (case a18 => k_is)
    (case l18 => k_is)
    (case c18 => k_is)
    (case k18 => k_is)
    (case a19 => k_is)
    (case l19 => k_is)
    (case c19 => k_is)
    (case k19 => k_is)
    (case z_isinstance => k_is)
    (case z_int => k_is)
    (case z_bool => k_is)
    (case z_tuple => k_is)
    (case z_len => k_is)
    (case z_all => k_is)
    (case z_sum => k_is)
    (case z_divmod => k_is)
    (case z_enumerate => k_is)
    (case z_max => k_is)
    (case z_repr => k_is)
    (case z_range => k_is)
    (case z_min => k_is)
    (case v_MOST_ENDS => k_is)
    (case v_MOST_BOBBINS => k_is)
    (case v_MOST_YARN => k_is)

