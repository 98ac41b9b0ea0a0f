import PyProof.Rows.All
import Wide.All
import OpenK.AllK
import Wide.FinOn
import HandS.ForMost
import HandS.ForExc
import HandS.IsInst
import HandS.Walk
import HandS.Wide
import HandS.TupAny
import KE.GoesEnum
import HandS.TupMul
import HandS.Style
import HandS.Codes
import HandS.Zip
import KE.GoesZip
import KE.GoesMore
import KE.SortCalls
import KE.LtSeq
import KE.KDictZip
import HandS.ListItems
import KE.DataCmp
import HandS.Deep
import KE.SortData
import KE.KStateDown
import HandS.Conv
import HandS.SortInts
import HandS.CallLocal
import HandS.Dict
import HandS.SetFor
import HandS.Strs
import HandS.DictTup
import KE.KDictPairs
import HandS.SortKw
import KE.KDictSum
import KE.KDictDisplayH
import KE.DataMinMax
import HandS.SetBool
import PyProof.Rows.CountFlat
import PySem.Challenge.RW_weftmill_k31_picks_spans_and_areas
set_option Elab.async false
set_option linter.all false
set_option autoImplicit false
set_option maxRecDepth 100000
set_option maxHeartbeats 4000000
/-! DLa: the data layer, part one: what a frame holds, told as plain data. -/
namespace DL
open PySem L2

abbrev St := L2.St
/-! ### data in a heap -/
def keyD : Key → PyData
  | .inl i => .int i
  | .inr x => .str x
def dicK (kvs : List (Key × V)) : List (PyData × V) := kvs.map fun q => (keyD q.1, q.2)
def dicT (kvs : List (List Key × V)) : List (PyData × V) := kvs.map fun q => (.tuple (q.1.map keyD), q.2)
/- a value is such data; F: the objects that stay as they are. A def of the module is told as a dict that no dict is (fnV) -/
def fnV (n : Str) : PyData := .dict [(.none, .str n)]
def fakD : PyData → Bool
  | .dict ((.none, _) :: _) => true
  | .dict ((.bool _, _) :: _) => true
  | _ => false
mutual
inductive Rp (K : PySem.W.Frag) (F : Hp) : V → PyData → Prop
  | non : Rp K F .non .none
  | bl (b : Bool) : Rp K F (.bl b) (.bool b)
  | int (i : Int) : Rp K F (.int i) (.int i)
  | str (x : Str) : Rp K F (.str x) (.str x)
  | lst {a : Addr} {xs : List V} {ds : List PyData} : SqL K F a xs → Rps K F xs ds → Rp K F (.ref a) (.list ds)
  | tup {a : Addr} {xs : List V} {ds : List PyData} : F a = some (.tup xs) → Rps K F xs ds → Rp K F (.ref a) (.tuple ds)
  | dik {a : Addr} {kvs : List (Key × V)} {ds : List (PyData × PyData)} : F a = some (.dK kvs) → Rpk K F (dicK kvs) ds → Rp K F (.ref a) (.dict ds)
  | dit {a : Addr} {kvs : List (List Key × V)} {ds : List (PyData × PyData)} : F a = some (.dT kvs) → Rpk K F (dicT kvs) ds → Rp K F (.ref a) (.dict ds)
  | fn {a : Addr} {n : Str} : PySem.W.nsIn K mainGlobals n = some (some (.ref a)) → Rp K F (.ref a) (.dict [(.none, .str n)])
inductive Rps (K : PySem.W.Frag) (F : Hp) : List V → List PyData → Prop
  | nil : Rps K F [] []
  | cons {v : V} {vs : List V} {d : PyData} {ds : List PyData} : Rp K F v d → Rps K F vs ds → Rps K F (v :: vs) (d :: ds)
inductive Rpk (K : PySem.W.Frag) (F : Hp) : List (PyData × V) → List (PyData × PyData) → Prop
  | nil : Rpk K F [] []
  | cons {k : PyData} {v : V} {vs : List (PyData × V)} {d : PyData} {ds : List (PyData × PyData)} : Rp K F v d → Rpk K F vs ds → Rpk K F ((k, v) :: vs) ((k, d) :: ds)
end
theorem sameT {K : PySem.W.Frag} {F H : Hp} (g : Same F H) {a : Addr} {vs : List V} (h : SqT K F a vs) : SqT K H a vs := by
  rcases h with (h | ⟨o, h⟩) | h
  · exact .inl (.inl (g _ _ h))
  · exact .inl (.inr ⟨o, g _ _ h⟩)
  · exact .inr h
theorem sameR {F H : Hp} (g : Same F H) {a : Addr} {o : HO} (h : Rd F a o) : Rd H a o := by
  rcases h with h | ⟨w, h⟩
  · exact .inl (g _ _ h)
  · exact .inr ⟨w, g _ _ h⟩
mutual
theorem rpM {K : PySem.W.Frag} {F G : Hp} (s : Same F G) : ∀ {v : V} {d : PyData}, Rp K F v d → Rp K G v d
  | _, _, .non => .non
  | _, _, .bl b => .bl b
  | _, _, .int i => .int i
  | _, _, .str x => .str x
  | _, _, .lst h t => .lst (s.seq h) (rpsM s t)
  | _, _, .tup h t => .tup (s _ _ h) (rpsM s t)
  | _, _, .dik h t => .dik (s _ _ h) (rpkM s t)
  | _, _, .dit h t => .dit (s _ _ h) (rpkM s t)
  | _, _, .fn h => .fn h
theorem rpsM {K : PySem.W.Frag} {F G : Hp} (s : Same F G) : ∀ {vs : List V} {ds : List PyData}, Rps K F vs ds → Rps K G vs ds
  | _, _, .nil => .nil
  | _, _, .cons h t => .cons (rpM s h) (rpsM s t)
theorem rpkM {K : PySem.W.Frag} {F G : Hp} (s : Same F G) : ∀ {vs : List (PyData × V)} {ds : List (PyData × PyData)}, Rpk K F vs ds → Rpk K G vs ds
  | _, _, .nil => .nil
  | _, _, .cons h t => .cons (rpM s h) (rpkM s t)
end
/-- what stays stands in H, a dict perhaps locked -/
def isDic : HO → Prop
  | .dK _ => True
  | .dT _ => True
  | _ => False
def Sub (F H : Hp) : Prop := ∀ a o, F a = some o → H a = some o ∨ (isDic o ∧ ∃ w, H a = some (.frz w o))
theorem Sub.free {F H : Hp} (e : Sub F H) {l : Addr} (h : H l = none) : F l = none := by
  cases q : F l with
  | none => rfl
  | some o =>
    rcases e l o q with z | ⟨_, w, z⟩
    · rw [h] at z; cases z
    · rw [h] at z; cases z
theorem Sub.rd {F H : Hp} (g : Sub F H) {a : Addr} {vs : List V} (h : Rd F a (.lst vs)) : Rd H a (.lst vs) := by
  rcases h with h | ⟨o, h⟩
  · rcases g _ _ h with z | ⟨z, _⟩
    · exact .inl z
    · exact z.elim
  · rcases g _ _ h with z | ⟨z, _⟩
    · exact .inr ⟨o, z⟩
    · exact z.elim
theorem Sub.seq {K : PySem.W.Frag} {F H : Hp} (g : Sub F H) {a : Addr} {vs : List V} (h : SqL K F a vs) : SqL K H a vs := by
  rcases h with (h | ⟨o, h⟩) | h
  · rcases g _ _ h with z | ⟨z, _⟩
    · exact .inl (.inl z)
    · exact z.elim
  · rcases g _ _ h with z | ⟨z, _⟩
    · exact .inl (.inr ⟨o, z⟩)
    · exact z.elim
  · exact .inr h
theorem Sub.tup {K : PySem.W.Frag} {F H : Hp} (g : Sub F H) {a : Addr} {vs : List V} (h : SqT K F a vs) : SqT K H a vs := by
  rcases h with (h | ⟨o, h⟩) | h
  · rcases g _ _ h with z | ⟨z, _⟩
    · exact .inl (.inl z)
    · exact z.elim
  · rcases g _ _ h with z | ⟨z, _⟩
    · exact .inl (.inr ⟨o, z⟩)
    · exact z.elim
  · exact .inr h
mutual
def noDic : PyData → Bool
  | .list xs => noDics xs
  | .tuple xs => noDics xs
  | .dict _ => false
  | _ => true
def noDics : List PyData → Bool
  | [] => true
  | x :: xs => noDic x && noDics xs
end
/- data without dicts, as the kit's rules have it -/
mutual
theorem toDp {K : PySem.W.Frag} {F H : Hp} (g : Sub F H) : ∀ {v : V} {d : PyData}, Rp K F v d → noDic d = true → Dp K H v d
  | _, _, .non, _ => .non
  | _, _, .bl b, _ => .bl b
  | _, _, .int i, _ => .int i
  | _, _, .str x, _ => .str x
  | _, _, .lst h t, n => .lst (g.seq h) (toDps g t (by unfold noDic at n; exact n))
  | _, _, .tup h t, n => .tup (g.tup (SqT.of h)) (toDps g t (by unfold noDic at n; exact n))
  | _, _, .dik _ _, n => by unfold noDic at n; cases n
  | _, _, .dit _ _, n => by unfold noDic at n; cases n
  | _, _, .fn _, n => by unfold noDic at n; cases n
theorem toDps {K : PySem.W.Frag} {F H : Hp} (g : Sub F H) : ∀ {vs : List V} {ds : List PyData}, Rps K F vs ds → noDics ds = true → DpAll K H vs ds
  | _, _, .nil, _ => .nil
  | _, _, .cons h t, n => by
    unfold noDics at n
    rw [Bool.and_eq_true] at n
    exact .cons (toDp g h n.1) (toDps g t n.2)
end
section
variable {K : PySem.W.Frag} {F G H : Hp} {vs ws : List V} {ds es : List PyData} {v : V} {d : PyData}
theorem rps_len : ∀ {vs : List V} {ds : List PyData}, Rps K F vs ds → vs.length = ds.length
  | _, _, .nil => rfl
  | _, _, .cons _ t => congrArg (· + 1) (rps_len t)
theorem rps_app : ∀ {vs : List V} {ds : List PyData}, Rps K F vs ds → Rps K F ws es → Rps K F (vs ++ ws) (ds ++ es)
  | _, _, .nil, q => q
  | _, _, .cons h t, q => .cons h (rps_app t q)
theorem rps_at : ∀ {vs : List V} {ds : List PyData} {i : Nat} {d : PyData}, Rps K F vs ds → ds[i]? = some d → ∃ v, vs[i]? = some v ∧ Rp K F v d
  | _, _, _, _, .nil, e => by simp at e
  | _, _, 0, _, .cons h _, e => by
    simp only [List.getElem?_cons_zero, Option.some.injEq] at e
    exact ⟨_, rfl, e ▸ h⟩
  | _, _, i + 1, _, .cons _ t, e => by
    simp only [List.getElem?_cons_succ] at e ⊢
    exact rps_at t e
theorem rps_at' : ∀ {vs : List V} {ds : List PyData} {i : Nat} {v : V}, Rps K F vs ds → vs[i]? = some v → ∃ d, ds[i]? = some d ∧ Rp K F v d
  | _, _, _, _, .nil, e => by simp at e
  | _, _, 0, _, .cons h _, e => by
    simp only [List.getElem?_cons_zero, Option.some.injEq] at e
    exact ⟨_, rfl, e ▸ h⟩
  | _, _, i + 1, _, .cons _ t, e => by
    simp only [List.getElem?_cons_succ] at e ⊢
    exact rps_at' t e
theorem rps_take : ∀ (n : Nat) {vs : List V} {ds : List PyData}, Rps K F vs ds → Rps K F (vs.take n) (ds.take n)
  | 0, _, _, _ => by rw [List.take_zero, List.take_zero]; exact .nil
  | _ + 1, _, _, .nil => .nil
  | n + 1, _, _, .cons h t => .cons h (rps_take n t)
theorem rps_drop : ∀ (n : Nat) {vs : List V} {ds : List PyData}, Rps K F vs ds → Rps K F (vs.drop n) (ds.drop n)
  | 0, _, _, h => h
  | _ + 1, _, _, .nil => .nil
  | n + 1, _, _, .cons _ t => rps_drop n t
theorem rps_set (h : Rp K F v d) : ∀ (n : Nat) {vs : List V} {ds : List PyData}, Rps K F vs ds → Rps K F (vs.set n v) (ds.set n d)
  | _, _, _, .nil => .nil
  | 0, _, _, .cons _ t => .cons h t
  | n + 1, _, _, .cons q t => .cons q (rps_set h n t)
theorem rps_ints : ∀ ns : List Int, Rps K F (ns.map V.int) (ns.map PyData.int)
  | [] => .nil
  | n :: r => .cons (.int n) (rps_ints r)
theorem rps_rep (h : Rp K F v d) : ∀ n : Nat, Rps K F (List.replicate n v) (List.replicate n d)
  | 0 => .nil
  | n + 1 => .cons h (rps_rep h n)
theorem rps_flat {vs : List V} {ds : List PyData} (h : Rps K F vs ds) : ∀ n : Nat, Rps K F (List.replicate n vs).flatten (List.replicate n ds).flatten
  | 0 => .nil
  | n + 1 => by
    rw [List.replicate_succ, List.replicate_succ, List.flatten_cons, List.flatten_cons]
    exact rps_app h (rps_flat h n)
theorem same_upd {p : Addr} (h : H p = none) {o : HO} : Same H (upd H p o) := fun b u e => by
  rw [upd_ne (ne_of_none e h)]
  exact e
end

/-! ### a frame's names -/
/-- what a name holds: data that stays; an object of one's own; an object lent by the caller -/
inductive Sl where
  | d (x : PyData)
  | l (x : PyData)
  | b (x : PyData)
/-- an expression's value: data that stays; what stands in slot i; a new object -/
inductive Vl where
  | d (x : PyData)
  | v (i : Nat)
  | n (x : PyData)
abbrev DEnv := List (Option Sl)
def Sl.mu : Sl → Bool
  | .d _ => false
  | _ => true
def Sl.it : Sl → PyData
  | .d x => x
  | .l x => x
  | .b x => x
def slotD (r : DEnv) (i : Nat) : Option PyData := match r[i]? with
  | some (some s) => some s.it
  | _ => none
/-- read as data -/
def rd (r : DEnv) : Vl → Option PyData
  | .d x => some x
  | .v i => slotD r i
  | .n x => some x
/-- a frame's entry -/
structure Ent where
  F0 : Hp
  H0 : Hp
  vs : List V
  bs : List Addr
def MutA (st : St) (r : DEnv) (a : Addr) : Prop := ∃ (i : Nat) (s : Sl), r[i]? = some (some s) ∧ Sl.mu s = true ∧ st[i]? = some (some (V.ref a))
/-- at p stands such an object, not among what stays -/
def ObAt (K : PySem.W.Frag) (F H : Hp) (p : Addr) : PyData → Prop
  | .list xs => ∃ vs, F p = none ∧ H p = some (.lst vs) ∧ Rps K F vs xs
  | .dict ds => F p = none ∧ ((∃ kvs, H p = some (.dK kvs) ∧ Rpk K F (dicK kvs) ds) ∨ ∃ kvs, H p = some (.dT kvs) ∧ Rpk K F (dicT kvs) ds)
  | _ => False
/-- not among what stays, or there as a tuple -/
def NoF (F : Hp) (a : Addr) : Prop := F a = none ∨ ∃ xs, F a = some (.tup xs)
structure Rel (K : PySem.W.Frag) (E : Ent) (F H : Hp) (st : St) (r : DEnv) : Prop where
  sub : Sub F H
  grow : Same E.F0 F
  keep : ∀ a o, E.H0 a = some o → a ∉ E.bs → H a = some o
  ever : ∀ a o, E.H0 a = some o → ∃ u, H a = some u
  nofr : ∀ a o, E.H0 a = some o → E.F0 a = none → NoF F a
  len : st.length = r.length
  dat : ∀ (i : Nat) (x : PyData), r[i]? = some (some (Sl.d x)) → ∃ v, st[i]? = some (some v) ∧ Rp K F v x
  own : ∀ (i : Nat) (x : PyData), r[i]? = some (some (Sl.l x)) → ∃ p, st[i]? = some (some (V.ref p)) ∧ E.H0 p = none ∧ ObAt K F H p x
  bor : ∀ (i : Nat) (x : PyData), r[i]? = some (some (Sl.b x)) → ∃ p, st[i]? = some (some (V.ref p)) ∧ E.vs[i]? = some (V.ref p) ∧ p ∈ E.bs ∧ ObAt K F H p x
  sep : ∀ (i j : Nat) (s t : Sl) (a : Addr), r[i]? = some (some s) → r[j]? = some (some t) → Sl.mu s = true → Sl.mu t = true → st[i]? = some (some (V.ref a)) → st[j]? = some (some (V.ref a)) → i = j
/-- what an expression does to the heaps -/
structure Stp (F H F' H' : Hp) (M : Addr → Prop) : Prop where
  gf : Same F F'
  keep : ∀ a o, H a = some o → ¬ M a → H' a = some o
  ever : ∀ a o, H a = some o → ∃ u, H' a = some u
  nofr : ∀ a o, H a = some o → F a = none → ¬ M a → NoF F' a
structure Aft (K : PySem.W.Frag) (E : Ent) (F H : Hp) (st : St) (r : DEnv) (F' H' : Hp) (r' : DEnv) : Prop where
  rel : Rel K E F' H' st r'
  stp : Stp F H F' H' (MutA st r)
  mu : ∀ a, MutA st r' a → MutA st r a
def VlOk (K : PySem.W.Frag) (F H : Hp) (st : St) (r : DEnv) (v : V) : Vl → Prop
  | .d x => Rp K F v x
  | .v i => st[i]? = some (some v)
  | .n x => ∃ p, v = .ref p ∧ ObAt K F H p x ∧ ¬ MutA st r p
/-- what is new was not there -/
def New (H : Hp) (v : V) : Vl → Prop
  | .n _ => ∀ p, v = .ref p → H p = none
  | _ => True

section
variable {K : PySem.W.Frag} {E : Ent} {F H F' H' F2 H2 : Hp} {st : St} {r r' r2 : DEnv} {v : V} {s : Vl} {x : PyData} {p : Addr} {o : HO}
theorem ObAt.some (h : ObAt K F H p x) : (∃ u, H p = .some u) ∧ F p = none := by
  cases x with
  | list xs => obtain ⟨vs, a, b, _⟩ := h; exact ⟨⟨_, b⟩, a⟩
  | dict ds =>
    obtain ⟨a, ⟨kvs, b, _⟩ | ⟨kvs, b, _⟩⟩ := h
    · exact ⟨⟨_, b⟩, a⟩
    · exact ⟨⟨_, b⟩, a⟩
  | none => exact h.elim
  | bool _ => exact h.elim
  | int _ => exact h.elim
  | str _ => exact h.elim
  | tuple _ => exact h.elim
theorem ObAt.mono (g : Same F F') (f : F' p = none) (e : ∀ o, H p = .some o → H' p = .some o) (h : ObAt K F H p x) : ObAt K F' H' p x := by
  cases x with
  | list xs => obtain ⟨vs, a, b, c⟩ := h; exact ⟨vs, f, e _ b, rpsM g c⟩
  | dict ds =>
    obtain ⟨a, ⟨kvs, b, c⟩ | ⟨kvs, b, c⟩⟩ := h
    · exact ⟨f, .inl ⟨kvs, e _ b, rpkM g c⟩⟩
    · exact ⟨f, .inr ⟨kvs, e _ b, rpkM g c⟩⟩
  | none => exact h.elim
  | bool _ => exact h.elim
  | int _ => exact h.elim
  | str _ => exact h.elim
  | tuple _ => exact h.elim
theorem Rel.mutIn (R : Rel K E F H st r) (m : MutA st r p) : (∃ u, H p = some u) ∧ F p = none := by
  obtain ⟨i, s, h1, h2, h3⟩ := m
  cases s with
  | d x => cases h2
  | l x =>
    obtain ⟨q, e, _, z⟩ := R.own i x h1
    rw [h3] at e
    cases e
    exact z.some
  | b x =>
    obtain ⟨q, e, _, _, z⟩ := R.bor i x h1
    rw [h3] at e
    cases e
    exact z.some
theorem Rel.fresh0 (R : Rel K E F H st r) (n : H p = none) : E.H0 p = none := by
  cases q : E.H0 p with
  | none => rfl
  | some u =>
    obtain ⟨w, z⟩ := R.ever p u q
    rw [n] at z
    cases z
theorem ObAt.ntup {u : HO} (h : ObAt K F H p x) (e : H p = Option.some u) : ∀ xs, u ≠ .tup xs := fun xs z => by
  subst z
  cases x with
  | list ys => obtain ⟨vs, a, b, _⟩ := h; rw [e] at b; cases b
  | dict ds =>
    obtain ⟨a, ⟨kvs, b, _⟩ | ⟨kvs, b, _⟩⟩ := h
    · rw [e] at b; cases b
    · rw [e] at b; cases b
  | none => exact h.elim
  | bool _ => exact h.elim
  | int _ => exact h.elim
  | str _ => exact h.elim
  | tuple _ => exact h.elim
theorem NoF.fin {a : Addr} (n : NoF F a) (s : Sub F H) (h : H a = some o) (hn : ∀ xs, o ≠ .tup xs) : F a = none := by
  rcases n with n | ⟨xs, n⟩
  · exact n
  · rcases s a _ n with z | ⟨z, _⟩
    · rw [h] at z
      exact (hn xs (Option.some.inj z)).elim
    · exact z.elim
theorem NoF.then {a : Addr} (n : NoF F a) (g : Same F F') (k : F a = none → NoF F' a) : NoF F' a := by
  rcases n with n | ⟨xs, n⟩
  · exact k n
  · exact .inr ⟨xs, g _ _ n⟩
theorem VlOk.aft (A : Aft K E F H st r F' H' r') (h : VlOk K F H st r v s) : VlOk K F' H' st r' v s := by
  cases s with
  | d x => exact rpM A.stp.gf h
  | v i => exact h
  | n x =>
    obtain ⟨p, e, o, m⟩ := h
    obtain ⟨⟨u, hu⟩, f⟩ := o.some
    exact ⟨p, e, o.mono A.stp.gf ((A.stp.nofr p u hu f m).fin A.rel.sub (A.stp.keep p u hu m) (o.ntup hu)) (fun w q => A.stp.keep p w q m), fun z => m (A.mu p z)⟩
theorem Stp.refl (M : Addr → Prop) : Stp F H F H M := ⟨Same.refl _, fun _ _ e _ => e, fun _ o e => ⟨o, e⟩, fun _ _ _ e _ => .inl e⟩
theorem Aft.refl (R : Rel K E F H st r) : Aft K E F H st r F H r := ⟨R, .refl _, fun _ h => h⟩
theorem Aft.trans (A : Aft K E F H st r F' H' r') (B : Aft K E F' H' st r' F2 H2 r2) : Aft K E F H st r F2 H2 r2 := by
  refine ⟨B.rel, ⟨A.stp.gf.trans B.stp.gf, fun a o e m => ?_, fun a o e => ?_, fun a o e n m => ?_⟩, fun a m => A.mu a (B.mu a m)⟩
  · exact B.stp.keep a o (A.stp.keep a o e m) fun m' => m (A.mu a m')
  · obtain ⟨u, e1⟩ := A.stp.ever a o e
    exact B.stp.ever a u e1
  · exact (A.stp.nofr a o e n m).then B.stp.gf fun n' => B.stp.nofr a o (A.stp.keep a o e m) n' fun m' => m (A.mu a m')
theorem Aft.newBack (A : Aft K E F H st r F' H' r') (h : New H' v s) : New H v s := by
  cases s with
  | d x => trivial
  | v i => trivial
  | n x =>
    intro p e
    cases q : H p with
    | none => rfl
    | some u =>
      obtain ⟨w, z⟩ := A.stp.ever p u q
      rw [h p e] at z
      cases z
/-- read: an object's top may be one's own, what is within stays -/
def Rdv (K : PySem.W.Frag) (F H : Hp) (v : V) (x : PyData) : Prop := Rp K F v x ∨ ∃ p, v = .ref p ∧ ObAt K F H p x
theorem Rel.read (R : Rel K E F H st r) (h : VlOk K F H st r v s) (e : rd r s = some x) : Rdv K F H v x := by
  cases s with
  | d y =>
    cases (show some y = some x from e)
    exact .inl h
  | n y =>
    cases (show some y = some x from e)
    obtain ⟨p, e1, e2, _⟩ := h
    exact .inr ⟨p, e1, e2⟩
  | v i =>
    have e : (match r[i]? with
      | some (some s) => some s.it
      | _ => none) = some x := e
    have h : st[i]? = some (some v) := h
    split at e
    · rename_i t q
      cases t with
      | d y =>
        cases (show some y = some x from e)
        obtain ⟨w, e1, q1⟩ := R.dat i _ q
        rw [h] at e1
        cases e1
        exact .inl q1
      | l y =>
        cases (show some y = some x from e)
        obtain ⟨p, e1, _, q1⟩ := R.own i _ q
        rw [h] at e1
        cases e1
        exact .inr ⟨p, rfl, q1⟩
      | b y =>
        cases (show some y = some x from e)
        obtain ⟨p, e1, _, _, q1⟩ := R.bor i _ q
        rw [h] at e1
        cases e1
        exact .inr ⟨p, rfl, q1⟩
    · cases e
/-- a sequence that is read: its items stay -/
theorem Rdv.seq {xs : List PyData} (g : Sub F H) (h : Rdv K F H v (.list xs)) : ∃ p vs, v = .ref p ∧ SqL K H p vs ∧ Rps K F vs xs := by
  rcases h with h | ⟨p, rfl, vs, a, b, c⟩
  · cases h with
    | lst a b => exact ⟨_, _, rfl, g.seq a, b⟩
  · exact ⟨p, vs, rfl, SqL.of b, c⟩
theorem Rdv.tup {xs : List PyData} (g : Sub F H) (h : Rdv K F H v (.tuple xs)) : ∃ p vs, v = .ref p ∧ SqT K H p vs ∧ Rps K F vs xs := by
  rcases h with h | ⟨p, rfl, z⟩
  · cases h with
    | tup a b => exact ⟨_, _, rfl, g.tup (SqT.of a), b⟩
  · exact z.elim
theorem Rdv.int {i : Int} (h : Rdv K F H v (.int i)) : v = .int i := by
  rcases h with h | ⟨p, rfl, z⟩
  · cases h; rfl
  · exact z.elim
theorem Rdv.str {i : Str} (h : Rdv K F H v (.str i)) : v = .str i := by
  rcases h with h | ⟨p, rfl, z⟩
  · cases h; rfl
  · exact z.elim
theorem Rdv.bl {i : Bool} (h : Rdv K F H v (.bool i)) : v = .bl i := by
  rcases h with h | ⟨p, rfl, z⟩
  · cases h; rfl
  · exact z.elim
theorem Rdv.non (h : Rdv K F H v .none) : v = .non := by
  rcases h with h | ⟨p, rfl, z⟩
  · cases h; rfl
  · exact z.elim
theorem Rdv.dp (g : Sub F H) (n : noDic x = true) (h : Rdv K F H v x) : Dp K H v x := by
  rcases h with h | ⟨p, rfl, z⟩
  · exact toDp g h n
  · cases x with
    | list xs =>
      obtain ⟨vs, a, b, c⟩ := z
      unfold noDic at n
      exact .lst (SqL.of b) (toDps g c n)
    | dict ds => unfold noDic at n; cases n
    | none => exact z.elim
    | bool _ => exact z.elim
    | int _ => exact z.elim
    | str _ => exact z.elim
    | tuple _ => exact z.elim
/-- a new object that stays -/
theorem Rel.new (R : Rel K E F H st r) (n : H p = none) : Aft K E F H st r (upd F p o) (upd H p o) r := by
  have nF : F p = none := R.sub.free n
  have gF : Same F (upd F p o) := same_upd nF
  have gH : Same H (upd H p o) := same_upd n
  have ob : ∀ q x, ObAt K F H q x → ObAt K (upd F p o) (upd H p o) q x := fun q x z => by
    obtain ⟨⟨u, hu⟩, f⟩ := z.some
    exact z.mono gF (by rw [upd_ne (ne_of_none hu n)]; exact f) fun w q => gH _ _ q
  refine ⟨⟨fun a u e => ?_, R.grow.trans gF, fun a u e m => gH _ _ (R.keep a u e m), fun a u e => ?_, fun a u e z => ?_, R.len, fun i x e => ?_, fun i x e => ?_, fun i x e => ?_, R.sep⟩,
    ⟨gF, fun a u e _ => gH _ _ e, fun a u e => ⟨u, gH _ _ e⟩, fun a u e z _ => ?_⟩, fun _ h => h⟩
  · by_cases h : a = p
    · subst h
      rw [upd_same] at e ⊢
      exact .inl e
    · rw [upd_ne h] at e ⊢
      exact R.sub a u e
  · obtain ⟨w, q⟩ := R.ever a u e
    exact ⟨w, gH _ _ q⟩
  · unfold NoF
    rw [upd_ne (fun z => by rw [z, R.fresh0 n] at e; cases e)]
    exact R.nofr a u e z
  · obtain ⟨w, q1, q2⟩ := R.dat i x e
    exact ⟨w, q1, rpM gF q2⟩
  · obtain ⟨q, q1, q2, q3⟩ := R.own i x e
    exact ⟨q, q1, q2, ob _ _ q3⟩
  · obtain ⟨q, q1, q2, q3, q4⟩ := R.bor i x e
    exact ⟨q, q1, q2, q3, ob _ _ q4⟩
  · unfold NoF
    rw [upd_ne (ne_of_none e n)]
    exact .inl z
/-- a new object that need not stay -/
theorem Rel.newH (R : Rel K E F H st r) (n : H p = none) : Aft K E F H st r F (upd H p o) r := by
  have gH : Same H (upd H p o) := same_upd n
  have ob : ∀ q x, ObAt K F H q x → ObAt K F (upd H p o) q x := fun q x z => z.mono (Same.refl _) z.some.2 fun w q => gH _ _ q
  refine ⟨⟨fun a u e => ?_, R.grow, fun a u e m => gH _ _ (R.keep a u e m), fun a u e => ?_, R.nofr, R.len, R.dat, fun i x e => ?_, fun i x e => ?_, R.sep⟩,
    ⟨Same.refl _, fun a u e _ => gH _ _ e, fun a u e => ⟨u, gH _ _ e⟩, fun a u _ z _ => .inl z⟩, fun _ h => h⟩
  · rcases R.sub a u e with z | ⟨z, w, q⟩
    · exact .inl (gH _ _ z)
    · exact .inr ⟨z, w, gH _ _ q⟩
  · obtain ⟨w, q⟩ := R.ever a u e
    exact ⟨w, gH _ _ q⟩
  · obtain ⟨q, q1, q2, q3⟩ := R.own i x e
    exact ⟨q, q1, q2, ob _ _ q3⟩
  · obtain ⟨q, q1, q2, q3, q4⟩ := R.bor i x e
    exact ⟨q, q1, q2, q3, ob _ _ q4⟩
theorem Rel.notMut (R : Rel K E F H st r) (n : H p = none) : ¬ MutA st r p := fun m => by
  obtain ⟨⟨u, e⟩, _⟩ := R.mutIn m
  rw [n] at e
  cases e
/-- a new list -/
theorem Rel.newL (R : Rel K E F H st r) (n : H p = none) {vs : List V} {xs : List PyData} (h : Rps K F vs xs) : Aft K E F H st r F (upd H p (.lst vs)) r ∧ VlOk K F (upd H p (.lst vs)) st r (.ref p) (.n (.list xs)) :=
  ⟨R.newH n, p, rfl, ⟨vs, R.sub.free n, upd_same, h⟩, R.notMut n⟩
/-- an object of one's own is put among what stays -/
theorem ObAt.frz (h : ObAt K F H p x) : ∃ o, H p = .some o ∧ Rp K (upd F p o) (.ref p) x := by
  cases x with
  | list xs =>
    obtain ⟨vs, a, b, c⟩ := h
    exact ⟨_, b, .lst (SqL.of upd_same) (rpsM (same_upd a) c)⟩
  | dict ds =>
    obtain ⟨a, ⟨kvs, b, c⟩ | ⟨kvs, b, c⟩⟩ := h
    · exact ⟨_, b, .dik upd_same (rpkM (same_upd a) c)⟩
    · exact ⟨_, b, .dit upd_same (rpkM (same_upd a) c)⟩
  | none => exact h.elim
  | bool _ => exact h.elim
  | int _ => exact h.elim
  | str _ => exact h.elim
  | tuple _ => exact h.elim
theorem Rel.frz (R : Rel K E F H st r) (e0 : E.H0 p = none) (f : F p = none) (e : H p = some o) (m : ¬ MutA st r p) : Rel K E (upd F p o) H st r := by
  have gF : Same F (upd F p o) := same_upd f
  have ob : ∀ q x, ObAt K F H q x → MutA st r q → ObAt K (upd F p o) H q x := fun q x z hm =>
    z.mono gF (by rw [upd_ne (show q ≠ p from fun e => m (e ▸ hm))]; exact z.some.2) fun w q => q
  refine ⟨fun a u q => ?_, R.grow.trans gF, R.keep, R.ever, fun a u q z => ?_, R.len, fun i x q => ?_, fun i x q => ?_, fun i x q => ?_, R.sep⟩
  · by_cases h : a = p
    · subst h
      rw [upd_same] at q
      cases q
      exact .inl e
    · rw [upd_ne h] at q
      exact R.sub a u q
  · unfold NoF
    rw [upd_ne (fun z => by rw [z, e0] at q; cases q)]
    exact R.nofr a u q z
  · obtain ⟨w, q1, q2⟩ := R.dat i x q
    exact ⟨w, q1, rpM gF q2⟩
  · obtain ⟨w, q1, q2, q3⟩ := R.own i x q
    exact ⟨w, q1, q2, ob _ _ q3 ⟨i, _, q, rfl, q1⟩⟩
  · obtain ⟨w, q1, q2, q3, q4⟩ := R.bor i x q
    exact ⟨w, q1, q2, q3, ob _ _ q4 ⟨i, _, q, rfl, q1⟩⟩
/-- a value that is new is put among what stays; H is the heap ahead -/
theorem Aft.frz (A : Aft K E F H st r F' H' r') (R : Rel K E F H st r) (h : VlOk K F' H' st r' v (.n x)) (n : New H v (.n x)) : ∃ F2, Aft K E F H st r F2 H' r' ∧ Same F' F2 ∧ Rp K F2 v x := by
  obtain ⟨p, rfl, z, m⟩ := h
  have n0 : H p = none := n p rfl
  obtain ⟨o, e, q⟩ := z.frz
  have f := z.some.2
  refine ⟨upd F' p o, ⟨A.rel.frz (R.fresh0 n0) f e m, ⟨A.stp.gf.trans (same_upd f), A.stp.keep, A.stp.ever, fun a u e1 e2 e3 => ?_⟩, A.mu⟩, same_upd f, q⟩
  unfold NoF
  rw [upd_ne (ne_of_none e1 n0)]
  exact A.stp.nofr a u e1 e2 e3
end
end DL
set_option Elab.async false
set_option linter.all false
set_option autoImplicit false
set_option maxRecDepth 100000
set_option maxHeartbeats 4000000
/-! DLb: the data layer, part two: promises of defs with the guards told; the judgements over data. -/
namespace DL
open PySem PySem.Spec PyProof.Rows L2

/-! ### a def's promise where no repr runs around it -/
structure FnG (P : Program) (w : World) (K : PySem.W.Frag) (mg : Str → Option Value) (base : Heap) (k : Nat) (f : Addr) (fd : FuncData) (ps : List Str) (sp : Sp) : Prop where
  len : ∀ vs H Q E, sp vs H Q E → vs.length = ps.length
  go : ∀ (A : Around) (outer : List Env) (s : Shared) (H : Hp) (args : Args) (us : List Value) (vs : List V) (Q : VK) (E : XK),
    Room k A → A.guards = some [] → Env0 P w K mg base A outer s H → BindsTo s fd args (ps.zip us) → Vals vs us → sp vs H Q E →
    codeAny (model P w) A (.call (.ref f) args) (CR (L2.CX P w) outer P w H s Q E) s
theorem FnG.up {P : Program} {w : World} {K : PySem.W.Frag} {mg : Str → Option Value} {base : Heap} {j k : Nat} {f : Addr} {fd : FuncData} {ps : List Str} {sp : Sp}
    (F : FnG P w K mg base j f fd ps sp) (h : j ≤ k) : FnG P w K mg base k f fd ps sp :=
  ⟨F.len, fun A outer s H args us vs Q E hr => F.go A outer s H args us vs Q E (hr.mono h)⟩
theorem FnG.imp {P : Program} {w : World} {K : PySem.W.Frag} {mg : Str → Option Value} {base : Heap} {k : Nat} {f : Addr} {fd : FuncData} {ps : List Str} {sp sp' : Sp}
    (F : FnG P w K mg base k f fd ps sp) (h : ∀ vs H Q E, sp' vs H Q E → sp vs H Q E) : FnG P w K mg base k f fd ps sp' :=
  ⟨fun vs H Q E q => F.len vs H Q E (h _ _ _ _ q), fun A outer s H args us vs Q E hr hg e0 hb hv hs => F.go A outer s H args us vs Q E hr hg e0 hb hv (h _ _ _ _ hs)⟩
/-- by its body -/
theorem Fun.okG {P : Program} {w : World} {K : PySem.W.Frag} {mg : Str → Option Value} {base : Heap} {x qual : Str} {st : Stmt} {f : Addr} {fd : FuncData} {N ps : List Str} {k : Nat} {sp : Sp}
    (F : Fun K x qual st f fd) (S : FnScope N ps (defScope st)) (len : ∀ vs H Q E, sp vs H Q E → vs.length = ps.length)
    (body : ∀ (cdv : Value) (A : Around) (outer : List Env) (s : Shared) (H : Hp) (vs : List V) (Q : VK) (E : XK),
      Room k (A.deeper (envOfC qual (defScope st) s.heap.objs.size f cdv)) → A.guards = some [] → sp vs H Q E →
      ∃ t, PSs (cxOf (L2.CX P w) P w K mg base N qual (defScope st) f cdv A outer s H E) (defBody st) t ∧ t { nx := fun _ H' => Q .non H', rt := Q } (start N vs) H) :
    FnG P w K mg base (k + 1) f fd ps sp := by
  obtain ⟨oc, od, kV, doc, pm, an, cdv, ct, osl, rfl, lk, hcd⟩ := F.ex
  refine ⟨len, ?_⟩
  intro A outer s H args us vs Q E hr hg e0 hb r hsp
  have KX : K.In s.heap := e0.mod.kin.keeps (fun b o e => (e0.bs b o e).1)
  have lim : s.heap.NoLimit := e0.mod.nolimit.keeps (fun b o e => (e0.bs b o e).1)
  have kinds : ∀ y ∈ ps.zip us, (defScope st).names.lookup y.1 = some .local ∨ ((defScope st).names.lookup y.1 = some .cell ∧ ((cellsFrom (s.heap.objs.size + 1) (defScope st).names []).lookup y.1).isSome = true) := by
    intro ⟨n, v⟩ hy
    cases S.par n (List.of_mem_zip hy).1 with
    | inl q => exact .inl q
    | inr q => exact .inr ⟨q, PySem.W.cellsFrom_some _ _ _ (.inl q)⟩
  refine codeAny_call_function hr.depth (KX _ _ lk) rfl S.co S.gen rfl (PySem.W.codeRec_of KX hcd) (hb _ _ _ _ ?_)
  refine wpAny_newFunctionEnv_cells S.kind kinds ?_
  intro env he s1 x
  subst he
  obtain ⟨t, ht, hq⟩ := body cdv A outer s H vs Q E (hr.deeper _) hg hsp
  refine ⟨lim.keeps x.toInCall.keep, codeAny_func ?_⟩
  have I := inv_start (CX := L2.CX P w) (E := E) S hr.hd e0 (len _ _ _ _ hsp) r x
  refine wpAny_mono (ht.run [] s1 (start N vs) H _ I hq) ?_ (fun e s' hs => hs)
  intro fl s' hs
  cases fl with
  | next =>
    obtain ⟨σ', H', J, q⟩ := hs
    exact ⟨.non, H', J.os, J.bare, J.base, J.hok, rfl, q⟩
  | ret u =>
    obtain ⟨v, σ', H', J, rv, q⟩ := hs
    exact ⟨v, H', J.os, J.bare, J.base, J.hok, rv, q⟩
  | brk => obtain ⟨_, _, _, q⟩ := hs; exact q.elim
  | cont => obtain ⟨_, _, _, q⟩ := hs; exact q.elim
section
variable {X : Cx} {k : Nat} {f : Addr} {fd : FuncData} {ps : List Str} {sp : Sp} {dvs : List V} {ds : List Value} {EX : XK} {x : Str} {p pos : Pos} {e : Expr} {es : List Expr} {t : TA}
theorem runG {pins : List (Addr × Obj)} {σ : St} {H : Hp} {s : Shared} {Q : VK} {us : List Value} {vs : List V} (F : FnG X.prog X.w X.K X.mg X.base k f fd ps sp) (hr : Room k X.A) (hg : X.A.guards = some [])
    (hb : Binds X.K fd ps ds) (hd : Vals dvs ds) (hx : Passes (L2.CX X.prog X.w) X EX) (I : Inv X pins σ H s) (r : Vals vs us) (h : sp (vs ++ dvs) H Q EX) :
    wpAny (model X.prog X.w) X.A (call (.ref f) us) (EP X pins σ Q) X.xe s := by
  have r2 := r.append hd
  have hl : (us ++ ds).length = ps.length := r2.length.symm.trans (F.len _ _ _ _ h)
  refine wpAny_call (codeAny_mono (F.go X.A X.stack s H ⟨us, []⟩ (us ++ ds) (vs ++ dvs) Q EX hr hg I.env0 (hb s us I.kIn hl) r2 h) ?_)
  intro res s' hq
  cases res with
  | error e => exact hx pins σ H s e s' I hq
  | ok fl =>
    cases fl with
    | ret u => exact I.after hq
    | next => exact hq.elim
    | brk => exact hq.elim
    | cont => exact hq.elim
theorem pe_callG (F : FnG X.prog X.w X.K X.mg X.base k f fd ps sp) (hr : Room k X.A) (hgu : X.A.guards = some []) (hg : Gl X x) (hm : X.mg x = some (.ref f)) (hk : PySem.W.keepIn X.K (.ref f) = true)
    (hb : Binds X.K fd ps ds) (hd : Vals dvs ds) (hx : Passes (L2.CX X.prog X.w) X EX) (ha : PA X (e :: es) t) (hdb : (x == ("__debug__" : Str)) = false := by decide)
    (he : starEach (e :: es) X.env = (false, eval e X.env) :: starEach es X.env := by rfl) (hpl : (backTo pos (starEach es X.env)).any (·.1) = false := by rfl) :
    PE X (.Call (.Name x p) (e :: es) [] pos) (tCall sp dvs EX t) := by
  constructor
  intro pins s σ H Q I h
  refine wpAny_Call_Name_kw (ld_glob I hg hm ?_ hdb)
  refine PySem.W.callWith_K (h₀ := X.base) I.ok.mod.kin hk (thn (ha.run pos pins s σ H _ I h) ?_) he hpl
  intro us s1 ⟨vs, H1, I1, r, q⟩
  exact ⟨I1.kIn, runG F hr hgu hb hd hx I1 r q⟩
end

/-! ### judgements -/
abbrev DT := DEnv → (Vl → DEnv → Prop) → Prop
abbrev DTT := DEnv → (Bool → DEnv → Prop) → Prop
abbrev DTF := DEnv → (List PyData → DEnv → Prop) → Prop
abbrev DTA := DEnv → (List Vl → DEnv → Prop) → Prop
def tD (K : PySem.W.Frag) (E : Ent) (f : DT) : TE := fun st H Q => ∃ F r P, Rel K E F H st r ∧ f r P ∧ ∀ s r' v F' H', P s r' → Aft K E F H st r F' H' r' → VlOk K F' H' st r' v s → New H v s → Q v H'
def tDT (K : PySem.W.Frag) (E : Ent) (f : DTT) : TT := fun st H Q => ∃ F r P, Rel K E F H st r ∧ f r P ∧ ∀ b r' F' H', P b r' → Aft K E F H st r F' H' r' → Q b H'
/-- arguments that stay -/
def tDF (K : PySem.W.Frag) (E : Ent) (f : DTF) : TA := fun st H Q => ∃ F r P, Rel K E F H st r ∧ f r P ∧ ∀ xs r' vs F' H', P xs r' → Aft K E F H st r F' H' r' → Rps K F' vs xs → Q vs H'
/-- arguments that stay, or stand in a slot -/
def Vl.old : Vl → Bool
  | .n _ => false
  | _ => true
def tDA (K : PySem.W.Frag) (E : Ent) (f : DTA) : TA := fun st H Q => ∃ F r P, Rel K E F H st r ∧ f r P ∧ ∀ ss r' vs F' H', P ss r' → Aft K E F H st r F' H' r' → Paired (VlOk K F' H' st r') vs ss → (∀ s ∈ ss, s.old = true) → Q vs H'
abbrev DE (E : Ent) (X : Cx) (e : Expr) (f : DT) : Prop := PE X e (tD X.K E f)
abbrev DTe (E : Ent) (X : Cx) (e : Expr) (f : DTT) : Prop := PT X e (tDT X.K E f)
abbrev DW (E : Ent) (X : Cx) (e : Expr) (f : DTT) : Prop := PW X e (tDT X.K E f)
abbrev DF (E : Ent) (X : Cx) (es : List Expr) (f : DTF) : Prop := PA X es (tDF X.K E f)
abbrev DA (E : Ent) (X : Cx) (es : List Expr) (f : DTA) : Prop := PA X es (tDA X.K E f)
theorem wkE {X : Cx} {e : Expr} {t t' : TE} (h : PE X e t) (k : ∀ st H Q, t' st H Q → t st H Q) : PE X e t' := ⟨fun pins s st H Q I q => h.run pins s st H Q I (k _ _ _ q)⟩
theorem wkT {X : Cx} {e : Expr} {t t' : TT} (h : PT X e t) (k : ∀ st H Q, t' st H Q → t st H Q) : PT X e t' := ⟨fun pins s st H Q I q => h.run pins s st H Q I (k _ _ _ q)⟩
theorem wkW {X : Cx} {e : Expr} {t t' : TT} (h : PW X e t) (k : ∀ st H Q, t' st H Q → t st H Q) : PW X e t' := ⟨fun w pins s st H Q I q => h.run w pins s st H Q I (k _ _ _ q)⟩
theorem wkA {X : Cx} {es : List Expr} {t t' : TA} (h : PA X es t) (k : ∀ st H Q, t' st H Q → t st H Q) : PA X es t' := ⟨fun pos pins s st H Q I q => h.run pos pins s st H Q I (k _ _ _ q)⟩
theorem wkS {X : Cx} {e : Stmt} {t t' : TS} (h : PS X e t) (k : ∀ D st H, t' D st H → t D st H) : PS X e t' := ⟨fun pins s st H D I q => h.run pins s st H D I (k _ _ _ q)⟩
theorem wkSs {X : Cx} {e : List Stmt} {t t' : TS} (h : PSs X e t) (k : ∀ D st H, t' D st H → t D st H) : PSs X e t' := ⟨fun pins s st H D I q => h.run pins s st H D I (k _ _ _ q)⟩

/-! ### names, constants -/
section
variable {X : Cx} {E : Ent} {e a b c : Expr} {es rest : List Expr} {pos : Pos} {fa fb fc : DT} {K : PySem.W.Frag} {F H : Hp} {st : St} {r : DEnv}
def vlOf (i : Nat) : Sl → Vl
  | .d x => .d x
  | _ => .v i
def dVar (i : Nat) (r : DEnv) (P : Vl → DEnv → Prop) : Prop := ∃ s, r[i]? = some (some s) ∧ P (vlOf i s) r
theorem Rel.var {i : Nat} {s : Sl} (R : Rel K E F H st r) (e : r[i]? = some (some s)) : ∃ v, st[i]? = some (some v) ∧ VlOk K F H st r v (vlOf i s) := by
  cases s with
  | d x => exact R.dat i x e
  | l x => obtain ⟨p, q, _⟩ := R.own i x e; exact ⟨_, q, q⟩
  | b x => obtain ⟨p, q, _⟩ := R.bor i x e; exact ⟨_, q, q⟩
theorem new_old {v : V} {s : Vl} (h : s.old = true) : New H v s := by
  cases s with
  | d x => trivial
  | v i => trivial
  | n x => cases h
theorem vlOf_old {i : Nat} {s : Sl} : (vlOf i s).old = true := by cases s <;> rfl
theorem de_var {i : Nat} (h : PE X e (tVar i)) : DE E X e (dVar i) := by
  refine wkE h fun st H Q ⟨F, r, P, R, ⟨s, e, p⟩, k⟩ => ?_
  obtain ⟨v, q, ok⟩ := R.var e
  exact ⟨v, q, k _ _ _ _ _ p (.refl R) ok (new_old vlOf_old)⟩
def dC (x : PyData) (r : DEnv) (P : Vl → DEnv → Prop) : Prop := P (.d x) r
theorem de_c {v : V} {x : PyData} (h : PE X e (tC v)) (hx : ∀ F, Rp X.K F v x) : DE E X e (dC x) :=
  wkE h fun st H Q ⟨F, r, P, R, p, k⟩ => k _ _ _ _ _ p (.refl R) (hx F) trivial
theorem de_int {i j pos} : DE E X (.Constant (.int i) j pos) (dC (.int i)) := de_c pe_int fun _ => .int i
theorem de_bl {i j pos} : DE E X (.Constant (.bool i) j pos) (dC (.bool i)) := de_c pe_bl fun _ => .bl i
theorem de_non {j pos} : DE E X (.Constant .none j pos) (dC .none) := de_c pe_non fun _ => .non
theorem de_str {i j pos} : DE E X (.Constant (.str i) j pos) (dC (.str i)) := de_c pe_str fun _ => .str i
/-- the value is put among what stays -/
def setD (r : DEnv) (i : Nat) (x : PyData) : DEnv := r.set i (some (.d x))
def dFz (f : DT) (r : DEnv) (P : Vl → DEnv → Prop) : Prop := f r fun s r' => match s with
  | .d x => P (.d x) r'
  | .n x => P (.d x) r'
  | .v i => match r'[i]? with
    | some (some (.l x)) => P (.d x) (setD r' i x)
    | some (some (.d x)) => P (.d x) r'
    | _ => False
/-- a slot's own object is put among what stays -/
theorem Rel.frzAt {i : Nat} {x : PyData} {v : V} (R : Rel K E F H st r) (e : r[i]? = some (some (.l x))) (hv : st[i]? = some (some v)) :
    ∃ F', Aft K E F H st r F' H (setD r i x) ∧ Rp K F' v x := by
  obtain ⟨p, e1, e0, z⟩ := R.own i x e
  rw [hv] at e1
  cases e1
  obtain ⟨o, ho, q⟩ := z.frz
  have f := z.some.2
  have gF : Same F (upd F p o) := same_upd f
  have ob : ∀ j s y q, r[j]? = some (some s) → Sl.mu s = true → st[j]? = some (some (.ref q)) → j ≠ i → ObAt K F H q y → ObAt K (upd F p o) H q y := fun j s y q hj hm hq ne zz =>
    zz.mono gF (by rw [upd_ne (show q ≠ p from fun z => ne (R.sep j i s _ p hj e hm rfl (z ▸ hq) hv))]; exact zz.some.2) fun _ q => q
  have il : i < r.length := (List.getElem?_eq_some_iff.mp e).1
  have at_ : ∀ j s, (setD r i x)[j]? = some (some s) → (j = i ∧ s = .d x) ∨ (j ≠ i ∧ r[j]? = some (some s)) := fun j s q => by
    unfold setD at q
    by_cases h : j = i
    · subst h
      rw [List.getElem?_set_self il] at q
      cases q
      exact .inl ⟨rfl, rfl⟩
    · rw [List.getElem?_set_ne (Ne.symm h)] at q
      exact .inr ⟨h, q⟩
  have mu : ∀ a, MutA st (setD r i x) a → MutA st r a ∧ a ≠ p := fun a ⟨j, s, h1, h2, h3⟩ => by
    rcases at_ j s h1 with ⟨_, z⟩ | ⟨ne, z⟩
    · subst z; cases h2
    · exact ⟨⟨j, s, z, h2, h3⟩, fun ea => ne (R.sep j i s _ p z e h2 rfl (ea ▸ h3) hv)⟩
  refine ⟨upd F p o, ⟨⟨fun a u q => ?_, R.grow.trans gF, R.keep, R.ever, fun a u q z => ?_, ?_, fun j y q => ?_, fun j y q => ?_, fun j y q => ?_, fun j l s t a h1 h2 m1 m2 s1 s2 => ?_⟩, ⟨gF, fun _ _ e _ => e, fun _ o e => ⟨o, e⟩, fun a u e1 e2 m => ?_⟩, fun a m => (mu a m).1⟩, q⟩
  · by_cases h : a = p
    · subst h
      rw [upd_same] at q
      cases q
      exact .inl ho
    · rw [upd_ne h] at q
      exact R.sub a u q
  · unfold NoF
    rw [upd_ne (fun z => by rw [z, e0] at q; cases q)]
    exact R.nofr a u q z
  · unfold setD
    rw [List.length_set]
    exact R.len
  · rcases at_ j _ q with ⟨rfl, z⟩ | ⟨ne, z⟩
    · cases z
      exact ⟨_, hv, ‹Rp K (upd F p o) (.ref p) x›⟩
    · obtain ⟨w, q1, q2⟩ := R.dat j y z
      exact ⟨w, q1, rpM gF q2⟩
  · rcases at_ j _ q with ⟨_, z⟩ | ⟨ne, z⟩
    · cases z
    · obtain ⟨w, q1, q2, q3⟩ := R.own j y z
      exact ⟨w, q1, q2, ob j _ y w z rfl q1 ne q3⟩
  · rcases at_ j _ q with ⟨_, z⟩ | ⟨ne, z⟩
    · cases z
    · obtain ⟨w, q1, q2, q3, q4⟩ := R.bor j y z
      exact ⟨w, q1, q2, q3, ob j _ y w z rfl q1 ne q4⟩
  · rcases at_ j s h1 with ⟨_, z⟩ | ⟨n1, z1⟩
    · subst z; cases m1
    · rcases at_ l t h2 with ⟨_, z⟩ | ⟨n2, z2⟩
      · subst z; cases m2
      · exact R.sep j l s t a z1 z2 m1 m2 s1 s2
  · unfold NoF
    rw [upd_ne]
    · exact .inl e2
    · exact fun z => m ⟨i, _, e, rfl, by rw [z]; exact hv⟩
theorem de_fz (h : DE E X e fa) : DE E X e (dFz fa) := by
  refine wkE h fun st H Q ⟨F, r, P, R, p, k⟩ => ⟨F, r, _, R, p, fun s r' v F' H' q A ok n => ?_⟩
  cases s with
  | d x => exact k _ _ _ _ _ q A ok trivial
  | n x =>
    obtain ⟨F2, A2, g, ok2⟩ := A.frz R ok n
    exact k _ _ _ _ _ q A2 ok2 trivial
  | v i =>
    have hv : st[i]? = some (some v) := ok
    have q : (match r'[i]? with
      | some (some (.l x)) => P (.d x) (setD r' i x)
      | some (some (.d x)) => P (.d x) r'
      | _ => False) := q
    split at q
    · rename_i x e
      obtain ⟨F2, B, ok2⟩ := A.rel.frzAt e hv
      exact k _ _ _ _ _ q (A.trans B) ok2 trivial
    · rename_i x e
      obtain ⟨w, q1, q2⟩ := A.rel.dat i x e
      rw [hv] at q1
      cases q1
      exact k _ _ _ _ _ q A q2 trivial
    · exact q.elim
end
end DL
set_option Elab.async false
set_option linter.all false
set_option autoImplicit false
set_option maxRecDepth 100000
set_option maxHeartbeats 4000000
/-! DLc: the data layer, part three: operators, tests, arguments, displays, calls. -/
namespace DL
open PySem PySem.Spec PyProof.Rows L2
section
variable {X : Cx} {E : Ent} {e a b c : Expr} {es rest : List Expr} {pos : Pos} {fa fb fc : DT} {ta tb : DTT} {ga : DTF} {ha : DTA} {K : PySem.W.Frag} {F H F' H' : Hp} {st : St} {r r' : DEnv}

/-! ### operators -/
/-- what an operation may hand back: data z, an object made anew perhaps -/
def Yld (K : PySem.W.Frag) (F H : Hp) (z : PyData) (Q : VK) : Prop :=
  (∀ v, Rp K F v z → Q v H) ∧ ∀ p o v, H p = none → Rp K (upd F p o) v z → Q v (upd H p o)
/-- .. or a new list zs -/
def YldL (K : PySem.W.Frag) (F H : Hp) (zs : List PyData) (Q : VK) : Prop := ∀ p vs, H p = none → Rps K F vs zs → Q (.ref p) (upd H p (.lst vs))
def dOp (B : PyData → PyData → PyData → Prop) (fa fb : DT) (r : DEnv) (P : Vl → DEnv → Prop) : Prop := fa r fun s r1 => fb r1 fun t r2 => ∃ x y z, rd r2 s = some x ∧ rd r2 t = some y ∧ B x y z ∧ P (.d z) r2
def dOpL (B : PyData → PyData → List PyData → Prop) (fa fb : DT) (r : DEnv) (P : Vl → DEnv → Prop) : Prop := fa r fun s r1 => fb r1 fun t r2 => ∃ x y z, rd r2 s = some x ∧ rd r2 t = some y ∧ B x y z ∧ P (.n (.list z)) r2
/-- a rule over values serves data -/
def OpB (K : PySem.W.Frag) (rr : R2) (B : PyData → PyData → PyData → Prop) : Prop := ∀ F H v w x y z Q, Sub F H → Rdv K F H v x → Rdv K F H w y → B x y z → Yld K F H z Q → rr v w H Q
def OpBL (K : PySem.W.Frag) (rr : R2) (B : PyData → PyData → List PyData → Prop) : Prop := ∀ F H v w x y z Q, Sub F H → Rdv K F H v x → Rdv K F H w y → B x y z → YldL K F H z Q → rr v w H Q
theorem yld_of {Q : VK} {P : Vl → DEnv → Prop} {z : PyData} {F0 H0 : Hp} {r0 : DEnv} (A : Aft K E F0 H0 st r0 F H r) (p : P (.d z) r)
    (k : ∀ s r' v F' H', P s r' → Aft K E F0 H0 st r0 F' H' r' → VlOk K F' H' st r' v s → New H0 v s → Q v H') : Yld K F H z Q :=
  ⟨fun v q => k (.d z) r v F H p A q trivial, fun p' o v n q => k (.d z) r v _ _ p (A.trans (A.rel.new n)) q trivial⟩
theorem yldL_of {Q : VK} {P : Vl → DEnv → Prop} {zs : List PyData} {F0 H0 : Hp} {r0 : DEnv} (A : Aft K E F0 H0 st r0 F H r) (p : P (.n (.list zs)) r)
    (k : ∀ s r' v F' H', P s r' → Aft K E F0 H0 st r0 F' H' r' → VlOk K F' H' st r' v s → New H0 v s → Q v H') : YldL K F H zs Q := fun p' vs n q => by
  obtain ⟨B, ok⟩ := A.rel.newL n q
  refine k (.n (.list zs)) r _ _ _ p (A.trans B) ok (A.newBack (v := V.ref p') (s := .n (.list zs)) fun q e => ?_)
  cases e
  exact n
theorem op_bin {rr : R2} {B : PyData → PyData → PyData → Prop} (h : OpB K rr B) : ∀ st H Q, tD K E (dOp B fa fb) st H Q → tOp rr (tD K E fa) (tD K E fb) st H Q := fun st H Q ⟨F, r, P, R, p, k⟩ =>
  ⟨F, r, _, R, p, fun s r1 v F1 H1 q1 A1 ok1 n1 => ⟨F1, r1, _, A1.rel, q1, fun t r2 w F2 H2 q2 A2 ok2 n2 => by
    obtain ⟨x, y, z, e1, e2, hb, q⟩ := q2
    exact h F2 H2 v w x y z Q A2.rel.sub (A2.rel.read (ok1.aft A2) e1) (A2.rel.read ok2 e2) hb (yld_of (A1.trans A2) q k)⟩⟩
theorem op_binL {rr : R2} {B : PyData → PyData → List PyData → Prop} (h : OpBL K rr B) : ∀ st H Q, tD K E (dOpL B fa fb) st H Q → tOp rr (tD K E fa) (tD K E fb) st H Q := fun st H Q ⟨F, r, P, R, p, k⟩ =>
  ⟨F, r, _, R, p, fun s r1 v F1 H1 q1 A1 ok1 n1 => ⟨F1, r1, _, A1.rel, q1, fun t r2 w F2 H2 q2 A2 ok2 n2 => by
    obtain ⟨x, y, z, e1, e2, hb, q⟩ := q2
    exact h F2 H2 v w x y z Q A2.rel.sub (A2.rel.read (ok1.aft A2) e1) (A2.rel.read ok2 e2) hb (yldL_of (A1.trans A2) q k)⟩⟩
theorem de_op {op : Operator} {rr : R2} {B : PyData → PyData → PyData → Prop} (ho : OpR X (binaryOp op) rr) (h : OpB X.K rr B) (ha : DE E X a fa) (hb : DE E X b fb) : DE E X (.BinOp a op b pos) (dOp B fa fb) := wkE (pe_op ho ha hb) (op_bin h)
theorem de_opL {op : Operator} {rr : R2} {B : PyData → PyData → List PyData → Prop} (ho : OpR X (binaryOp op) rr) (h : OpBL X.K rr B) (ha : DE E X a fa) (hb : DE E X b fb) : DE E X (.BinOp a op b pos) (dOpL B fa fb) := wkE (pe_op ho ha hb) (op_binL h)
theorem de_cmp {op : CmpOp} {rr : R2} {B : PyData → PyData → PyData → Prop} (ho : OpR X (compareOp op) rr) (h : OpB X.K rr B) (ha : DE E X a fa) (hb : DE E X b fb) (hm : behindInMarks op b = false) : DE E X (.Compare a [op] [b] pos) (dOp B fa fb) :=
  wkE (pe_cmpR ho ha hb hm) (op_bin h)
/-- ints -/
def I2 (g : Int → Int → PyData) (C : Int → Int → Prop) : PyData → PyData → PyData → Prop := fun x y z => ∃ i j, x = .int i ∧ y = .int j ∧ C i j ∧ z = g i j
theorem opB_int {g : Int → Int → V} {g' : Int → Int → PyData} {C : Int → Int → Prop} (hg : ∀ K F i j, Rp K F (g i j) (g' i j)) : OpB K (rI C g) (I2 g' C) := by
  intro F H v w x y z Q g0 h1 h2 ⟨i, j, e1, e2, hc, e3⟩ hy
  subst e1 e2 e3
  exact ⟨i, j, h1.int, h2.int, hc, hy.1 _ (hg _ _ _ _)⟩
theorem opB_int0 {g : Int → Int → V} {g' : Int → Int → PyData} (hg : ∀ K F i j, Rp K F (g i j) (g' i j)) : OpB K (rI0 g) (I2 g' fun _ _ => True) := by
  intro F H v w x y z Q g0 h1 h2 ⟨i, j, e1, e2, hc, e3⟩ hy
  subst e1 e2 e3
  exact ⟨i, j, h1.int, h2.int, hy.1 _ (hg _ _ _ _)⟩
theorem opB_or {r1 r2 : R2} {B1 B2 : PyData → PyData → PyData → Prop} (h1 : OpB K r1 B1) (h2 : OpB K r2 B2) : OpB K (fun x y H Q => r1 x y H Q ∨ r2 x y H Q) (fun x y z => B1 x y z ∨ B2 x y z) := by
  intro F H v w x y z Q g0 a1 a2 hb hy
  rcases hb with hb | hb
  · exact .inl (h1 F H v w x y z Q g0 a1 a2 hb hy)
  · exact .inr (h2 F H v w x y z Q g0 a1 a2 hb hy)
theorem opR_or {f : Value → Value → Sem Value} {r1 r2 : R2} (h1 : OpR X f r1) (h2 : OpR X f r2) : OpR X f (fun x y H Q => r1 x y H Q ∨ r2 x y H Q) := by
  intro pins s σ H x y v u Q I rx ry h
  rcases h with h | h
  · exact h1 pins s σ H x y v u Q I rx ry h
  · exact h2 pins s σ H x y v u Q I rx ry h
abbrev bAdd := I2 (fun i j => .int (i + j)) fun _ _ => True
abbrev bSub := I2 (fun i j => .int (i - j)) fun _ _ => True
abbrev bMul := I2 (fun i j => .int (i * j)) CMul
abbrev bMulW := I2 (fun i j => .int (i * j)) CMulW
abbrev bMod := I2 (fun i j => .int (i.fmod j)) fun _ j => j ≠ 0
abbrev bDiv := I2 (fun i j => .int (i.fdiv j)) CDivN
abbrev bDivW := I2 (fun i j => .int (i / j)) CDivW
abbrev bPow := I2 (fun i j => .int (i ^ j.toNat)) CPow
theorem de_add (ha : DE E X a fa) (hb : DE E X b fb) : DE E X (.BinOp a .Add b pos) (dOp bAdd fa fb) := de_op op_add (opB_int0 fun _ _ _ _ => .int _) ha hb
theorem de_sub (ha : DE E X a fa) (hb : DE E X b fb) : DE E X (.BinOp a .Sub b pos) (dOp bSub fa fb) := de_op op_sub (opB_int0 fun _ _ _ _ => .int _) ha hb
theorem de_mul (ha : DE E X a fa) (hb : DE E X b fb) : DE E X (.BinOp a .Mult b pos) (dOp bMul fa fb) := de_op op_mul (opB_int fun _ _ _ _ => .int _) ha hb
theorem de_mulW (ha : DE E X a fa) (hb : DE E X b fb) : DE E X (.BinOp a .Mult b pos) (dOp bMulW fa fb) := de_op op_mulW (opB_int fun _ _ _ _ => .int _) ha hb
theorem de_mod (ha : DE E X a fa) (hb : DE E X b fb) : DE E X (.BinOp a .Mod b pos) (dOp bMod fa fb) := de_op op_modN (opB_int fun _ _ _ _ => .int _) ha hb
theorem de_div (ha : DE E X a fa) (hb : DE E X b fb) : DE E X (.BinOp a .FloorDiv b pos) (dOp bDiv fa fb) := de_op op_fdivN (opB_int fun _ _ _ _ => .int _) ha hb
theorem de_divW (ha : DE E X a fa) (hb : DE E X b fb) : DE E X (.BinOp a .FloorDiv b pos) (dOp bDivW fa fb) := de_op op_fdivW (opB_int fun _ _ _ _ => .int _) ha hb
theorem de_pow (ha : DE E X a fa) (hb : DE E X b fb) : DE E X (.BinOp a .Pow b pos) (dOp bPow fa fb) := de_op op_pow (opB_int fun _ _ _ _ => .int _) ha hb
abbrev bLt := I2 (fun i j => .bool (decide (i < j))) fun _ _ => True
abbrev bLe := I2 (fun i j => .bool (decide (i ≤ j))) fun _ _ => True
abbrev bGt := I2 (fun i j => .bool (decide (j < i))) fun _ _ => True
abbrev bGe := I2 (fun i j => .bool (decide (j ≤ i))) fun _ _ => True
theorem de_lt (ha : DE E X a fa) (hb : DE E X b fb) : DE E X (.Compare a [.Lt] [b] pos) (dOp bLt fa fb) := de_cmp op_lt (opB_int0 fun _ _ _ _ => .bl _) ha hb (nomark _)
theorem de_le (ha : DE E X a fa) (hb : DE E X b fb) : DE E X (.Compare a [.LtE] [b] pos) (dOp bLe fa fb) := de_cmp op_le (opB_int0 fun _ _ _ _ => .bl _) ha hb (nomark _)
theorem de_gt (ha : DE E X a fa) (hb : DE E X b fb) : DE E X (.Compare a [.Gt] [b] pos) (dOp bGt fa fb) := de_cmp op_gt (opB_int0 fun _ _ _ _ => .bl _) ha hb (nomark _)
theorem de_ge (ha : DE E X a fa) (hb : DE E X b fb) : DE E X (.Compare a [.GtE] [b] pos) (dOp bGe fa fb) := de_cmp op_ge (opB_int0 fun _ _ _ _ => .bl _) ha hb (nomark _)
/-- == of data -/
def bEq : PyData → PyData → PyData → Prop := fun x y z => (noDic x = true ∧ SeqAt.shaped x = true) ∧ (noDic y = true ∧ SeqAt.shaped y = true) ∧ z = .bool (PyData.eqv x y)
def bNe : PyData → PyData → PyData → Prop := fun x y z => (noDic x = true ∧ SeqAt.shaped x = true) ∧ (noDic y = true ∧ SeqAt.shaped y = true) ∧ z = .bool (!PyData.eqv x y)
theorem opB_eq : OpB K (rEqD K) bEq := by
  intro F H v w x y z Q g h1 h2 ⟨⟨n1, s1⟩, ⟨n2, s2⟩, e⟩ hy
  subst e
  exact ⟨x, y, h1.dp g n1, h2.dp g n2, s1, s2, hy.1 _ (.bl _)⟩
theorem opB_ne : OpB K (rNeD K) bNe := by
  intro F H v w x y z Q g h1 h2 ⟨⟨n1, s1⟩, ⟨n2, s2⟩, e⟩ hy
  subst e
  exact ⟨x, y, h1.dp g n1, h2.dp g n2, s1, s2, hy.1 _ (.bl _)⟩
theorem de_eq (hu : X.A.units + 64 < cLine) (ha : DE E X a fa) (hb : DE E X b fb) : DE E X (.Compare a [.Eq] [b] pos) (dOp bEq fa fb) := de_cmp (op_eqD hu) opB_eq ha hb (nomark _)
theorem de_ne (hu : X.A.units + 64 < cLine) (ha : DE E X a fa) (hb : DE E X b fb) : DE E X (.Compare a [.NotEq] [b] pos) (dOp bNe fa fb) := de_cmp (op_neD hu) opB_ne ha hb (nomark _)
/-- a chain -/
def dChain (B B' : PyData → PyData → PyData → Prop) (fa fb fc : DT) (r : DEnv) (P : Vl → DEnv → Prop) : Prop := fa r fun s r1 => fb r1 fun t r2 => ∃ x y k, rd r2 s = some x ∧ t = .d y ∧ B x y (.bool k) ∧
  if k = true then fc r2 fun u r3 => ∃ w z, rd r3 u = some w ∧ B' y w z ∧ P (.d z) r3 else P (.d (.bool false)) r2
theorem de_chain {op op' : CmpOp} {rr rr' : R2} {B B' : PyData → PyData → PyData → Prop} (h1 : PE X (.Compare a [op, op'] [b, c] pos) (tChain rr rr' (tD X.K E fa) (tD X.K E fb) (tD X.K E fc))) (h : OpB X.K rr B) (h' : OpB X.K rr' B') :
    DE E X (.Compare a [op, op'] [b, c] pos) (dChain B B' fa fb fc) := by
  refine wkE h1 fun st H Q ⟨F, r, P, R, p, k⟩ => ?_
  refine ⟨F, r, _, R, p, fun s r1 v F1 H1 q1 A1 ok1 n1 => ⟨F1, r1, _, A1.rel, q1, fun t r2 w F2 H2 q2 A2 ok2 n2 => ?_⟩⟩
  obtain ⟨x, y, b, e1, e2, hb, q⟩ := q2
  subst e2
  have fin : ∃ k, V.bl b = .bl k ∧ (if k = true then tD X.K E fc st H2 (fun w' H4 => rr' w w' H4 Q) else Q (.bl false) H2) := by
    refine ⟨b, rfl, ?_⟩
    cases b with
    | true =>
      rw [if_pos rfl] at q ⊢
      refine ⟨F2, r2, _, A2.rel, q, fun u r3 w' F3 H3 q3 A3 ok3 n3 => ?_⟩
      obtain ⟨y', z, e3, hb', q4⟩ := q3
      exact h' F3 H3 w w' y y' z Q A3.rel.sub (.inl (rpM A3.stp.gf ok2)) (A3.rel.read ok3 e3) hb' (yld_of ((A1.trans A2).trans A3) q4 k)
    | false =>
      rw [if_neg Bool.false_ne_true] at q ⊢
      exact k _ _ _ _ _ q (A1.trans A2) (.bl _) trivial
  refine h F2 H2 v w x y (.bool b) _ A2.rel.sub (A2.rel.read (ok1.aft A2) e1) (.inl ok2) hb ⟨fun v' hv => ?_, fun p' o v' n hv => ?_⟩
  · cases hv
    exact fin
  · cases hv
    obtain ⟨k', e, q'⟩ := fin
    cases e
    refine ⟨b, rfl, ?_⟩
    have B1 := A2.rel.new (o := o) n
    cases b with
    | true =>
      rw [if_pos rfl] at q ⊢
      refine ⟨_, r2, _, B1.rel, q, fun u r3 w' F3 H3 q3 A3 ok3 n3 => ?_⟩
      obtain ⟨y', z, e3, hb', q4⟩ := q3
      exact h' F3 H3 w w' y y' z Q A3.rel.sub (.inl (rpM A3.stp.gf (rpM B1.stp.gf ok2))) (A3.rel.read ok3 e3) hb' (yld_of (((A1.trans A2).trans B1).trans A3) q4 k)
    | false =>
      rw [if_neg Bool.false_ne_true] at q ⊢
      exact k _ _ _ _ _ q ((A1.trans A2).trans B1) (.bl _) trivial
theorem de_le_le (ha : DE E X a fa) (hb : DE E X b fb) (hc : DE E X c fc) (hm : lastMarks [CmpOp.LtE, CmpOp.LtE] [b, c] = false := by rfl) : DE E X (.Compare a [.LtE, .LtE] [b, c] pos) (dChain bLe bLe fa fb fc) := de_chain (pe_chain op_le op_le ha hb hc hm) (opB_int0 fun _ _ _ _ => .bl _) (opB_int0 fun _ _ _ _ => .bl _)
theorem de_le_lt (ha : DE E X a fa) (hb : DE E X b fb) (hc : DE E X c fc) (hm : lastMarks [CmpOp.LtE, CmpOp.Lt] [b, c] = false := by rfl) : DE E X (.Compare a [.LtE, .Lt] [b, c] pos) (dChain bLe bLt fa fb fc) := de_chain (pe_chain op_le op_lt ha hb hc hm) (opB_int0 fun _ _ _ _ => .bl _) (opB_int0 fun _ _ _ _ => .bl _)

/-! ### tests -/
def dTe (fa : DT) (r : DEnv) (P : Bool → DEnv → Prop) : Prop := fa r fun s r1 => ∃ k, s = .d (.bool k) ∧ P k r1
theorem dt_val (h : PT X e (tB (tD X.K E fa))) : DTe E X e (dTe fa) := by
  refine wkT h fun st H Q ⟨F, r, P, R, p, k⟩ => ⟨F, r, _, R, p, fun s r1 v F1 H1 q1 A1 ok1 n1 => ?_⟩
  obtain ⟨b, e, q⟩ := q1
  subst e
  cases ok1
  exact ⟨b, rfl, k _ _ _ _ q A1⟩
def dtAnd (ta tb : DTT) (r : DEnv) (P : Bool → DEnv → Prop) : Prop := ta r fun c r1 => if c = true then tb r1 P else P false r1
def dtOr (ta tb : DTT) (r : DEnv) (P : Bool → DEnv → Prop) : Prop := ta r fun c r1 => if c = true then P true r1 else tb r1 P
def dtNot (ta : DTT) (r : DEnv) (P : Bool → DEnv → Prop) : Prop := ta r fun c r1 => P (!c) r1
theorem dt_ite {Q : Bool → Hp → Prop} {P : Bool → DEnv → Prop} {F0 H0 : Hp} {r0 : DEnv} (A : Aft K E F0 H0 st r0 F H r) (q : tb r P) (k : ∀ b r' F' H', P b r' → Aft K E F0 H0 st r0 F' H' r' → Q b H') : tDT K E tb st H Q :=
  ⟨F, r, P, A.rel, q, fun b r' F' H' q' B => k b r' F' H' q' (A.trans B)⟩
theorem dw_and1 (ha : DTe E X a ta) : DW E X (.BoolOp .And [a] pos) ta := pw_and1 ha
theorem dw_or1 (ha : DTe E X a ta) : DW E X (.BoolOp .Or [a] pos) ta := pw_or1 ha
theorem dw_and (ha : DTe E X a ta) (hb : DW E X (.BoolOp .And (b :: rest) pos) tb) : DW E X (.BoolOp .And (a :: b :: rest) pos) (dtAnd ta tb) := by
  refine wkW (pw_and ha hb) fun st H Q ⟨F, r, P, R, p, k⟩ => ⟨F, r, _, R, p, fun c r1 F1 H1 q1 A1 => ?_⟩
  cases c with
  | true =>
    rw [if_pos rfl] at q1 ⊢
    exact dt_ite A1 q1 k
  | false =>
    rw [if_neg Bool.false_ne_true] at q1 ⊢
    exact k _ _ _ _ q1 A1
theorem dw_or (ha : DTe E X a ta) (hb : DW E X (.BoolOp .Or (b :: rest) pos) tb) : DW E X (.BoolOp .Or (a :: b :: rest) pos) (dtOr ta tb) := by
  refine wkW (pw_or ha hb) fun st H Q ⟨F, r, P, R, p, k⟩ => ⟨F, r, _, R, p, fun c r1 F1 H1 q1 A1 => ?_⟩
  cases c with
  | true =>
    rw [if_pos rfl] at q1 ⊢
    exact k _ _ _ _ q1 A1
  | false =>
    rw [if_neg Bool.false_ne_true] at q1 ⊢
    exact dt_ite A1 q1 k
theorem dt_w (h : DW E X e ta) : DTe E X e ta := h.pt
theorem dt_not (ha : DTe E X a ta) : DTe E X (.UnaryOp .Not a pos) (dtNot ta) := by
  refine wkT (pt_not ha) fun st H Q ⟨F, r, P, R, p, k⟩ => ⟨F, r, _, R, p, fun c r1 F1 H1 q1 A1 => k _ _ _ _ q1 A1⟩
/-- as values -/
def dAnd (fa fb : DT) (r : DEnv) (P : Vl → DEnv → Prop) : Prop := fa r fun s r1 => ∃ c, s = .d (.bool c) ∧ if c = true then fb r1 P else P (.d (.bool false)) r1
def dOr (fa fb : DT) (r : DEnv) (P : Vl → DEnv → Prop) : Prop := fa r fun s r1 => ∃ c, s = .d (.bool c) ∧ if c = true then P (.d (.bool true)) r1 else fb r1 P
def dNot (fa : DT) (r : DEnv) (P : Vl → DEnv → Prop) : Prop := fa r fun s r1 => ∃ c, s = .d (.bool c) ∧ P (.d (.bool (!c))) r1
theorem de_then {Q : VK} {P : Vl → DEnv → Prop} {F0 H0 : Hp} {r0 : DEnv} (A : Aft K E F0 H0 st r0 F H r) (q : fb r P) (k : ∀ s r' v F' H', P s r' → Aft K E F0 H0 st r0 F' H' r' → VlOk K F' H' st r' v s → New H0 v s → Q v H') : tD K E fb st H Q :=
  ⟨F, r, P, A.rel, q, fun s r' v F' H' q' B ok n => k s r' v F' H' q' (A.trans B) ok (A.newBack n)⟩
theorem de_one {op} (h : DE E X a fa) : DE E X (.BoolOp op [a] pos) fa := pe_one h
theorem de_and (ha : DE E X a fa) (hb : DE E X (.BoolOp .And (b :: rest) pos) fb) : DE E X (.BoolOp .And (a :: b :: rest) pos) (dAnd fa fb) := by
  refine wkE (pe_and ha hb) fun st H Q ⟨F, r, P, R, p, k⟩ => ⟨F, r, _, R, p, fun s r1 v F1 H1 q1 A1 ok1 n1 => ?_⟩
  obtain ⟨c, e, q⟩ := q1
  subst e
  cases ok1
  refine ⟨c, rfl, ?_⟩
  cases c with
  | true =>
    rw [if_pos rfl] at q ⊢
    exact de_then A1 q k
  | false =>
    rw [if_neg Bool.false_ne_true] at q ⊢
    exact k _ _ _ _ _ q A1 (.bl _) trivial
theorem de_or (ha : DE E X a fa) (hb : DE E X (.BoolOp .Or (b :: rest) pos) fb) : DE E X (.BoolOp .Or (a :: b :: rest) pos) (dOr fa fb) := by
  refine wkE (pe_or ha hb) fun st H Q ⟨F, r, P, R, p, k⟩ => ⟨F, r, _, R, p, fun s r1 v F1 H1 q1 A1 ok1 n1 => ?_⟩
  obtain ⟨c, e, q⟩ := q1
  subst e
  cases ok1
  refine ⟨c, rfl, ?_⟩
  cases c with
  | true =>
    rw [if_pos rfl] at q ⊢
    exact k _ _ _ _ _ q A1 (.bl _) trivial
  | false =>
    rw [if_neg Bool.false_ne_true] at q ⊢
    exact de_then A1 q k
theorem de_not (ha : DE E X a fa) : DE E X (.UnaryOp .Not a pos) (dNot fa) := by
  refine wkE (pe_not ha) fun st H Q ⟨F, r, P, R, p, k⟩ => ⟨F, r, _, R, p, fun s r1 v F1 H1 q1 A1 ok1 n1 => ?_⟩
  obtain ⟨c, e, q⟩ := q1
  subst e
  cases ok1
  exact ⟨c, rfl, k _ _ _ _ _ q A1 (.bl _) trivial⟩
def dIf (t : DTT) (fa fb : DT) (r : DEnv) (P : Vl → DEnv → Prop) : Prop := t r fun c r1 => if c = true then fa r1 P else fb r1 P
theorem de_if {t : DTT} (hc : DTe E X c t) (ha : DE E X a fa) (hb : DE E X b fb) : DE E X (.IfExp c a b pos) (dIf t fa fb) := by
  refine wkE (pe_ifExp hc ha hb) fun st H Q ⟨F, r, P, R, p, k⟩ => ⟨F, r, _, R, p, fun c r1 F1 H1 q1 A1 => ?_⟩
  cases c with
  | true =>
    rw [if_pos rfl] at q1 ⊢
    exact de_then A1 q1 k
  | false =>
    rw [if_neg Bool.false_ne_true] at q1 ⊢
    exact de_then A1 q1 k

/-! ### arguments -/
def fNil (r : DEnv) (P : List PyData → DEnv → Prop) : Prop := P [] r
def fCons (fa : DT) (ga : DTF) (r : DEnv) (P : List PyData → DEnv → Prop) : Prop := dFz fa r fun s r1 => ∃ x, s = .d x ∧ ga r1 fun xs r2 => P (x :: xs) r2
theorem df_nil : DF E X [] fNil := wkA pa_nil fun st H Q ⟨F, r, P, R, p, k⟩ => k _ _ _ _ _ p (.refl R) .nil
theorem df_cons (h : DE E X e fa) (t : DF E X es ga) (hs : starEach (e :: es) X.env = (false, eval e X.env) :: starEach es X.env := by rfl) : DF E X (e :: es) (fCons fa ga) := by
  refine wkA (pa_cons (de_fz h) t hs) fun st H Q ⟨F, r, P, R, p, k⟩ => ⟨F, r, _, R, p, fun s r1 v F1 H1 q1 A1 ok1 n1 => ?_⟩
  obtain ⟨x, e, q⟩ := q1
  subst e
  exact ⟨F1, r1, _, A1.rel, q, fun xs r2 vs F2 H2 q2 A2 ok2 => k _ _ _ _ _ q2 (A1.trans A2) (.cons (rpM A2.stp.gf ok1) ok2)⟩
def aNil (r : DEnv) (P : List Vl → DEnv → Prop) : Prop := P [] r
def aCons (fa : DT) (ha : DTA) (r : DEnv) (P : List Vl → DEnv → Prop) : Prop := fa r fun s r1 => s.old = true ∧ ha r1 fun ss r2 => P (s :: ss) r2
theorem da_nil : DA E X [] aNil := wkA pa_nil fun st H Q ⟨F, r, P, R, p, k⟩ => k _ _ _ _ _ p (.refl R) .nil (fun _ h => nomatch h)
theorem da_cons (h : DE E X e fa) (t : DA E X es ha) (hs : starEach (e :: es) X.env = (false, eval e X.env) :: starEach es X.env := by rfl) : DA E X (e :: es) (aCons fa ha) := by
  refine wkA (pa_cons h t hs) fun st H Q ⟨F, r, P, R, p, k⟩ => ⟨F, r, _, R, p, fun s r1 v F1 H1 q1 A1 ok1 n1 => ?_⟩
  refine ⟨F1, r1, _, A1.rel, q1.2, fun ss r2 vs F2 H2 q2 A2 ok2 o2 => k _ _ _ _ _ q2 (A1.trans A2) (.cons (ok1.aft A2) ok2) fun u hu => ?_⟩
  rcases List.mem_cons.mp hu with rfl | hu
  · exact q1.1
  · exact o2 u hu
def dTup (ga : DTF) (r : DEnv) (P : Vl → DEnv → Prop) : Prop := ga r fun xs r1 => xs.length ≤ sizeLine ∧ P (.d (.tuple xs)) r1
theorem de_tup {k : Nat} (h : DF E X es ga) : DE E X (.Tuple es k pos) (dTup ga) := by
  refine wkE (pe_tup h) fun st H Q ⟨F, r, P, R, p, k⟩ => ⟨F, r, _, R, p, fun xs r1 vs F1 H1 q1 A1 ok1 => ?_⟩
  refine ⟨by rw [rps_len ok1]; exact q1.1, fun p n => ?_⟩
  have B := A1.rel.new (o := .tup vs) n
  exact k _ _ _ _ _ q1.2 (A1.trans B) (.tup upd_same (rpsM B.stp.gf ok1)) trivial
def dLst (ga : DTF) (r : DEnv) (P : Vl → DEnv → Prop) : Prop := ga r fun xs r1 => xs.length ≤ sizeLine ∧ P (.n (.list xs)) r1
theorem de_lst (h : DF E X es ga) : DE E X (.List es pos) (dLst ga) := by
  refine wkE (pe_lst h) fun st H Q ⟨F, r, P, R, p, k⟩ => ⟨F, r, _, R, p, fun xs r1 vs F1 H1 q1 A1 ok1 => ?_⟩
  refine ⟨by rw [rps_len ok1]; exact q1.1, fun p n => ?_⟩
  exact yldL_of A1 q1.2 k p vs n ok1

/-! ### built-in functions over data that stays or is read -/
def VlsRd (r : DEnv) : List Vl → List PyData → Prop := Paired fun s x => rd r s = some x
def dB (B : List PyData → PyData → Prop) (ha : DTA) (r : DEnv) (P : Vl → DEnv → Prop) : Prop := ha r fun ss r1 => ∃ xs z, VlsRd r1 ss xs ∧ B xs z ∧ P (.d z) r1
def dBL (B : List PyData → List PyData → Prop) (ha : DTA) (r : DEnv) (P : Vl → DEnv → Prop) : Prop := ha r fun ss r1 => ∃ xs z, VlsRd r1 ss xs ∧ B xs z ∧ P (.n (.list z)) r1
def CB (K : PySem.W.Frag) (rr : List V → Hp → VK → Prop) (B : List PyData → PyData → Prop) : Prop := ∀ F H vs xs z Q, Sub F H → Paired (Rdv K F H) vs xs → B xs z → Yld K F H z Q → rr vs H Q
def CBL (K : PySem.W.Frag) (rr : List V → Hp → VK → Prop) (B : List PyData → List PyData → Prop) : Prop := ∀ F H vs xs z Q, Sub F H → Paired (Rdv K F H) vs xs → B xs z → YldL K F H z Q → rr vs H Q
theorem reads {vs : List V} {ss : List Vl} {xs : List PyData} (R : Rel K E F H st r) (h : Paired (VlOk K F H st r) vs ss) (q : VlsRd r ss xs) : Paired (Rdv K F H) vs xs := by
  induction h generalizing xs with
  | nil => cases q; exact .nil
  | cons a _ ih => cases q with
    | cons b t => exact .cons (R.read a b) (ih t)
theorem de_call {rr : List V → Hp → VK → Prop} {B : List PyData → PyData → Prop} (h1 : PE X e (tCB rr (tDA X.K E ha))) (h : CB X.K rr B) : DE E X e (dB B ha) := by
  refine wkE h1 fun st H Q ⟨F, r, P, R, p, k⟩ => ⟨F, r, _, R, p, fun ss r1 vs F1 H1 q1 A1 ok1 o1 => ?_⟩
  obtain ⟨xs, z, e, hb, q⟩ := q1
  exact h F1 H1 vs xs z Q A1.rel.sub (reads A1.rel ok1 e) hb (yld_of A1 q k)
theorem de_callL {rr : List V → Hp → VK → Prop} {B : List PyData → List PyData → Prop} (h1 : PE X e (tCB rr (tDA X.K E ha))) (h : CBL X.K rr B) : DE E X e (dBL B ha) := by
  refine wkE h1 fun st H Q ⟨F, r, P, R, p, k⟩ => ⟨F, r, _, R, p, fun ss r1 vs F1 H1 q1 A1 ok1 o1 => ?_⟩
  obtain ⟨xs, z, e, hb, q⟩ := q1
  exact h F1 H1 vs xs z Q A1.rel.sub (reads A1.rel ok1 e) hb (yldL_of A1 q k)
end
end DL
set_option Elab.async false
set_option linter.all false
set_option autoImplicit false
set_option maxRecDepth 100000
set_option maxHeartbeats 4000000
/-! DLd: the data layer, part four: statements, targets, loops; promises of defs. -/
namespace DL
open PySem PySem.Spec PyProof.Rows L2
section
variable {X : Cx} {E : Ent} {e a b c : Expr} {es : List Expr} {pos : Pos} {fa fb fc : DT} {ta tb : DTT} {K : PySem.W.Frag} {F H F' H' : Hp} {st : St} {r r' : DEnv} {sm : Stmt} {rest body : List Stmt}

/-! ### statements -/
structure DEnds where
  nx : DEnv → Prop
  rt : Sl → DEnv → Prop
  bk : DEnv → Prop := fun _ => False
  ct : DEnv → Prop := fun _ => False
abbrev DTS := DEnds → DEnv → Prop
/-- a result: data that stays, or an object that is new since the def's entry -/
def ResE (K : PySem.W.Frag) (E : Ent) (F H : Hp) (v : V) : Sl → Prop
  | .d x => Rp K F v x
  | .l x => ∃ p, v = .ref p ∧ ObAt K F H p x ∧ E.H0 p = none
  | .b _ => False
structure EndsOk (K : PySem.W.Frag) (E : Ent) (F : Hp) (P : DEnds) (D : Ends) : Prop where
  nx : ∀ r' st' F' H', P.nx r' → Rel K E F' H' st' r' → Same F F' → D.nx st' H'
  rt : ∀ s r' v st' F' H', P.rt s r' → Rel K E F' H' st' r' → ResE K E F' H' v s → D.rt v H'
  bk : ∀ r' st' F' H', P.bk r' → Rel K E F' H' st' r' → Same F F' → D.bk st' H'
  ct : ∀ r' st' F' H', P.ct r' → Rel K E F' H' st' r' → Same F F' → D.ct st' H'
theorem EndsOk.mono {P : DEnds} {D : Ends} (h : EndsOk K E F P D) (g : Same F F') : EndsOk K E F' P D :=
  ⟨fun r' st' F2 H' p R q => h.nx r' st' F2 H' p R (g.trans q), h.rt, fun r' st' F2 H' p R q => h.bk r' st' F2 H' p R (g.trans q), fun r' st' F2 H' p R q => h.ct r' st' F2 H' p R (g.trans q)⟩
def tDS (K : PySem.W.Frag) (E : Ent) (g : DTS) : TS := fun D st H => ∃ F r P, Rel K E F H st r ∧ g P r ∧ EndsOk K E F P D
abbrev DS (E : Ent) (X : Cx) (s : Stmt) (g : DTS) : Prop := PS X s (tDS X.K E g)
abbrev DSs (E : Ent) (X : Cx) (s : List Stmt) (g : DTS) : Prop := PSs X s (tDS X.K E g)
variable {g g1 g2 : DTS}
def sNext (P : DEnds) (r : DEnv) : Prop := P.nx r
def sSeq (g1 g2 : DTS) (P : DEnds) (r : DEnv) : Prop := g1 { P with nx := g2 P } r
theorem dss_nil : DSs E X [] sNext := wkSs pss_nil fun D st H ⟨F, r, P, R, p, k⟩ => k.nx _ _ _ _ p R (Same.refl _)
theorem dss_cons (h1 : DS E X sm g1) (h2 : DSs E X rest g2) : DSs E X (sm :: rest) (sSeq g1 g2) := by
  refine wkSs (pss_cons h1 h2) fun D st H ⟨F, r, P, R, p, k⟩ => ⟨F, r, { P with nx := g2 P }, R, p, fun r' st' F' H' q R' s => ⟨F', r', P, R', q, k.mono s⟩, k.rt, k.bk, k.ct⟩
theorem dss_one (h1 : DS E X sm g1) : DSs E X [sm] g1 := pss_one h1
theorem ds_pass : DS E X (.Pass pos) sNext := wkS ps_pass fun D st H ⟨F, r, P, R, p, k⟩ => k.nx _ _ _ _ p R (Same.refl _)
def sBreak (P : DEnds) (r : DEnv) : Prop := P.bk r
def sCont (P : DEnds) (r : DEnv) : Prop := P.ct r
theorem ds_break : DS E X (.Break pos) sBreak := wkS ps_break fun D st H ⟨F, r, P, R, p, k⟩ => k.bk _ _ _ _ p R (Same.refl _)
theorem ds_cont : DS E X (.Continue pos) sCont := wkS ps_continue fun D st H ⟨F, r, P, R, p, k⟩ => k.ct _ _ _ _ p R (Same.refl _)
def sNever (_ : DEnds) (_ : DEnv) : Prop := False
theorem ds_never : DS E X sm sNever := wkS ps_never fun D st H ⟨F, r, P, R, p, k⟩ => p
theorem dss_never : DSs E X rest sNever := wkSs pss_never fun D st H ⟨F, r, P, R, p, k⟩ => p
def sDrop (fa : DT) (P : DEnds) (r : DEnv) : Prop := fa r fun _ r1 => P.nx r1
theorem ds_expr (h : DE E X e fa) (hs : swapsWith e none pos.line X.env = pure false := by rfl) : DS E X (.Expr e pos) (sDrop fa) :=
  wkS (ps_expr h hs) fun D st H ⟨F, r, P, R, p, k⟩ => ⟨F, r, _, R, p, fun s r1 v F1 H1 q1 A1 _ _ => k.nx _ _ _ _ q1 A1.rel A1.stp.gf⟩
/-- a value that is handed back -/
def resOf (r : DEnv) (Q : Sl → DEnv → Prop) : Vl → Prop
  | .d x => Q (.d x) r
  | .n x => Q (.l x) r
  | .v i => match r[i]? with
    | some (some (.l x)) => Q (.l x) r
    | some (some (.d x)) => Q (.d x) r
    | _ => False
def sRet (fa : DT) (P : DEnds) (r : DEnv) : Prop := fa r fun s r1 => resOf r1 P.rt s
theorem ds_ret (h : DE E X e fa) : DS E X (.Return (some e) pos) (sRet fa) := by
  refine wkS (ps_ret h) fun D st H ⟨F, r, P, R, p, k⟩ => ⟨F, r, _, R, p, fun s r1 v F1 H1 q1 A1 ok n => ?_⟩
  cases s with
  | d x => exact k.rt _ _ _ _ _ _ q1 A1.rel ok
  | n x =>
    obtain ⟨p, e, z, _⟩ := ok
    exact k.rt _ _ _ _ _ _ q1 A1.rel ⟨p, e, z, R.fresh0 (n p e)⟩
  | v i =>
    have hv : st[i]? = some (some v) := ok
    have q1 : (match r1[i]? with
      | some (some (.l x)) => P.rt (.l x) r1
      | some (some (.d x)) => P.rt (.d x) r1
      | _ => False) := q1
    split at q1
    · rename_i x e
      obtain ⟨p, e1, e0, z⟩ := A1.rel.own i x e
      rw [hv] at e1
      cases e1
      exact k.rt _ _ _ _ _ _ q1 A1.rel ⟨p, rfl, z, e0⟩
    · rename_i x e
      obtain ⟨w, e1, z⟩ := A1.rel.dat i x e
      rw [hv] at e1
      cases e1
      exact k.rt _ _ _ _ _ _ q1 A1.rel z
    · exact q1.elim
def sRetN (P : DEnds) (r : DEnv) : Prop := P.rt (.d .none) r
theorem ds_retN : DS E X (.Return none pos) sRetN := wkS ps_retN fun D st H ⟨F, r, P, R, p, k⟩ => k.rt _ _ _ _ _ _ p R .non
def sIf (t : DTT) (g1 g2 : DTS) (P : DEnds) (r : DEnv) : Prop := t r fun c r1 => if c = true then g1 P r1 else g2 P r1
theorem ds_if {t : DTT} {s1 s2 : List Stmt} (hc : DTe E X c t) (h1 : DSs E X s1 g1) (h2 : DSs E X s2 g2) : DS E X (.If c s1 s2 pos) (sIf t g1 g2) := by
  refine wkS (ps_if hc h1 h2) fun D st H ⟨F, r, P, R, p, k⟩ => ⟨F, r, _, R, p, fun c r1 F1 H1 q1 A1 => ?_⟩
  cases c with
  | true =>
    rw [if_pos rfl] at q1 ⊢
    exact ⟨F1, r1, P, A1.rel, q1, k.mono A1.stp.gf⟩
  | false =>
    rw [if_neg Bool.false_ne_true] at q1 ⊢
    exact ⟨F1, r1, P, A1.rel, q1, k.mono A1.stp.gf⟩

/-! ### names stored -/
theorem Rel.put {i : Nat} {v : V} {s : Sl} (R : Rel K E F H st r)
    (h : (∃ x, s = .d x ∧ Rp K F v x) ∨ ∃ x p, s = .l x ∧ v = .ref p ∧ ObAt K F H p x ∧ ¬ MutA st r p ∧ E.H0 p = none) : Rel K E F H (st.set i (some v)) (r.set i (some s)) := by
  have look : ∀ j t, (r.set i (some s))[j]? = some (some t) → (j = i ∧ t = s ∧ (st.set i (some v))[j]? = some (some v)) ∨ (j ≠ i ∧ r[j]? = some (some t) ∧ (st.set i (some v))[j]? = st[j]?) := fun j t q => by
    by_cases h : j = i
    · subst h
      have il : j < r.length := by
        have := (List.getElem?_eq_some_iff.mp q).1
        rwa [List.length_set] at this
      rw [List.getElem?_set_self il] at q
      cases q
      exact .inl ⟨rfl, rfl, List.getElem?_set_self (by rw [R.len]; exact il)⟩
    · rw [List.getElem?_set_ne (Ne.symm h)] at q
      exact .inr ⟨h, q, List.getElem?_set_ne (Ne.symm h)⟩
  refine ⟨R.sub, R.grow, R.keep, R.ever, R.nofr, by rw [List.length_set, List.length_set]; exact R.len, fun j x q => ?_, fun j x q => ?_, fun j x q => ?_, fun j l t u a h1 h2 m1 m2 s1 s2 => ?_⟩
  · rcases look j _ q with ⟨rfl, e, l⟩ | ⟨_, e, l⟩
    · rcases h with ⟨y, e2, z⟩ | ⟨y, p, e2, _⟩
      · subst e2; cases e
        exact ⟨v, l, z⟩
      · subst e2; cases e
    · rw [l]
      exact R.dat j x e
  · rcases look j _ q with ⟨rfl, e, l⟩ | ⟨_, e, l⟩
    · rcases h with ⟨y, e2, z⟩ | ⟨y, p, e2, e3, z, _, z0⟩
      · subst e2; cases e
      · subst e2 e3; cases e
        exact ⟨p, l, z0, z⟩
    · rw [l]
      exact R.own j x e
  · rcases look j _ q with ⟨rfl, e, l⟩ | ⟨_, e, l⟩
    · rcases h with ⟨y, e2, z⟩ | ⟨y, p, e2, _⟩
      · subst e2; cases e
      · subst e2; cases e
    · rw [l]
      exact R.bor j x e
  · have pm : ∀ m w, m ≠ i → r[m]? = some (some w) → Sl.mu w = true → (st.set i (some v))[m]? = st[m]? → (st.set i (some v))[m]? = some (some (.ref a)) → MutA st r a := fun m w _ z1 z2 z3 z4 => ⟨m, w, z1, z2, by rw [← z3]; exact z4⟩
    have self : ∀ w, w = s → Sl.mu w = true → some (some (V.ref a)) = some (some v) → ¬ MutA st r a := fun w ew mw ev => by
      subst ew
      rcases h with ⟨y, e2, _⟩ | ⟨y, p, e2, e3, _, n, _⟩
      · subst e2; cases mw
      · rw [e3] at ev
        cases ev
        exact n
    rcases look j _ h1 with ⟨rfl, e, l1⟩ | ⟨n1, e, l1⟩
    · rcases look l _ h2 with ⟨rfl, e', l2⟩ | ⟨n2, e', l2⟩
      · rfl
      · exact (self t e m1 (s1.symm.trans l1) (pm l u n2 e' m2 l2 s2)).elim
    · rcases look l _ h2 with ⟨rfl, e', l2⟩ | ⟨n2, e', l2⟩
      · exact (self u e' m2 (s2.symm.trans l2) (pm j t n1 e m1 l1 s1)).elim
      · rw [l1] at s1
        rw [l2] at s2
        exact R.sep j l t u a e e' m1 m2 s1 s2
def putV (r : DEnv) (i : Nat) (Q : DEnv → Prop) : Vl → Prop
  | .d x => Q (r.set i (some (.d x)))
  | .n x => Q (r.set i (some (.l x)))
  | .v _ => False
def sSet (i : Nat) (fa : DT) (P : DEnds) (r : DEnv) : Prop := fa r fun s r1 => putV r1 i P.nx s
theorem Rel.putV {i : Nat} {v : V} {s : Vl} {Q : DEnv → Prop} {H0 : Hp} (R : Rel K E F H st r) (n0 : ∀ p, H0 p = none → E.H0 p = none) (ok : VlOk K F H st r v s) (n : New H0 v s) (q : putV r i Q s) : ∃ r2, Q r2 ∧ Rel K E F H (st.set i (some v)) r2 := by
  cases s with
  | d x => exact ⟨_, q, R.put (.inl ⟨x, rfl, ok⟩)⟩
  | n x =>
    obtain ⟨p, e, z, m⟩ := ok
    exact ⟨_, q, R.put (.inr ⟨x, p, rfl, e, z, m, n0 p (n p e)⟩)⟩
  | v i => exact q.elim
theorem ds_set {i : Nat} {tg : Expr} (h : PS X (.Assign [tg] e pos) (tAsg (tD X.K E fa) (gName i))) : DS E X (.Assign [tg] e pos) (sSet i fa) :=
  wkS h fun D st H ⟨F, r, P, R, p, k⟩ => ⟨F, r, _, R, p, fun s r1 v F1 H1 q1 A1 ok n => by
    obtain ⟨r2, q, R2⟩ := A1.rel.putV (fun p => R.fresh0) ok n q1
    exact k.nx _ _ _ _ q R2 A1.stp.gf⟩

/-! ### targets of loops and of tuples -/
abbrev DTG := PyData → DEnv → (DEnv → Prop) → Prop
abbrev DTGs := List PyData → DEnv → (DEnv → Prop) → Prop
def tDG (K : PySem.W.Frag) (E : Ent) (g : DTG) : TG := fun v st H Q => ∃ F r P x, Rel K E F H st r ∧ Rp K F v x ∧ g x r P ∧ ∀ r' st' F' H', P r' → Rel K E F' H' st' r' → Same F F' → Q st' H'
def tDGs (K : PySem.W.Frag) (E : Ent) (g : DTGs) : TGs := fun vs st H Q => ∃ F r P xs, Rel K E F H st r ∧ Rps K F vs xs ∧ g xs r P ∧ ∀ r' st' F' H', P r' → Rel K E F' H' st' r' → Same F F' → Q st' H'
theorem wkG {tg : Expr} {t t' : TG} (h : PG X tg t) (k : ∀ v st H Q, t' v st H Q → t v st H Q) : PG X tg t' := ⟨fun pins s st H v u Q I rv q => h.run pins s st H v u Q I rv (k _ _ _ _ q)⟩
theorem wkGs {tg : List Expr} {t t' : TGs} (h : PGs X tg t) (k : ∀ v st H Q, t' v st H Q → t v st H Q) : PGs X tg t' := ⟨fun pins s st H v u Q I rv q => h.run pins s st H v u Q I rv (k _ _ _ _ q)⟩
def hName (i : Nat) (x : PyData) (r : DEnv) (Q : DEnv → Prop) : Prop := Q (r.set i (some (.d x)))
theorem dg_name {i : Nat} {tg : Expr} (h : PG X tg (gName i)) : PG X tg (tDG X.K E (hName i)) :=
  wkG h fun v st H Q ⟨F, r, P, x, R, q, p, k⟩ => k _ _ _ _ p (R.put (.inl ⟨x, rfl, q⟩)) (Same.refl _)
def hNil (xs : List PyData) (r : DEnv) (Q : DEnv → Prop) : Prop := xs = [] ∧ Q r
def hCons (g : DTG) (gs : DTGs) (xs : List PyData) (r : DEnv) (Q : DEnv → Prop) : Prop := ∃ y ys, xs = y :: ys ∧ g y r fun r1 => gs ys r1 Q
theorem dgs_nil : PGs X [] (tDGs X.K E hNil) := wkGs pgs_nil fun v st H Q ⟨F, r, P, x, R, q, p, k⟩ => by
  obtain ⟨e, p⟩ := p
  subst e
  cases q
  exact ⟨rfl, k _ _ _ _ p R (Same.refl _)⟩
theorem dgs_cons {t : Expr} {ts : List Expr} {g : DTG} {gs : DTGs} (h1 : PG X t (tDG X.K E g)) (h2 : PGs X ts (tDGs X.K E gs)) (hs : (assignEach (t :: ts) X.env).map (·.2) = assign t X.env :: (assignEach ts X.env).map (·.2) := by rfl) :
    PGs X (t :: ts) (tDGs X.K E (hCons g gs)) := wkGs (pgs_cons h1 h2 hs) fun v st H Q ⟨F, r, P, x, R, q, p, k⟩ => by
  obtain ⟨y, ys, e, p⟩ := p
  subst e
  cases q with
  | cons q1 q2 =>
    refine ⟨_, _, rfl, F, r, _, y, R, q1, p, fun r1 st1 F1 H1 p1 R1 s1 => ⟨F1, r1, P, ys, R1, rpsM s1 q2, p1, fun r2 st2 F2 H2 p2 R2 s2 => k _ _ _ _ p2 R2 (s1.trans s2)⟩⟩
def hTup (n : Nat) (gs : DTGs) (x : PyData) (r : DEnv) (Q : DEnv → Prop) : Prop := ∃ xs, x = .tuple xs ∧ xs.length = n ∧ gs xs r Q
theorem dg_tup {tg : Expr} {gs : DTGs} {n : Nat} (h : PG X tg (gTup X.K n (tDGs X.K E gs))) : PG X tg (tDG X.K E (hTup n gs)) :=
  wkG h fun v st H Q ⟨F, r, P, x, R, q, p, k⟩ => by
    obtain ⟨xs, e, l, p⟩ := p
    subst e
    cases q with
    | tup h1 h2 => exact ⟨_, _, rfl, R.sub.tup (SqT.of h1), by rw [rps_len h2]; exact l, F, r, P, xs, R, h2, p, k⟩
/-- target = e, the target a tuple of names -/
def sAsg (fa : DT) (g : DTG) (P : DEnds) (r : DEnv) : Prop := dFz fa r fun s r1 => ∃ x, s = .d x ∧ g x r1 P.nx
theorem ds_asg {tg : Expr} {g : DTG} (h : PS X (.Assign [tg] e pos) (tAsg (tD X.K E (dFz fa)) (tDG X.K E g))) : DS E X (.Assign [tg] e pos) (sAsg fa g) :=
  wkS h fun D st H ⟨F, r, P, R, p, k⟩ => ⟨F, r, _, R, p, fun s r1 v F1 H1 q1 A1 ok n => by
    obtain ⟨x, e, q⟩ := q1
    subst e
    exact ⟨F1, r1, P.nx, x, A1.rel, ok, q, fun r2 st2 F2 H2 p2 R2 s2 => k.nx _ _ _ _ p2 R2 (A1.stp.gf.trans s2)⟩⟩

/-! ### loops -/
/-- an iterator over such data -/
def DWalk (K : PySem.W.Frag) (F : Hp) (J : It) (xs : List PyData) : Prop := ∃ (G : Hp → Prop) (Y : Nat → Hp → V → Hp → Prop), Walk J xs.length G Y ∧ (∀ F1 H, Same F F1 → Sub F1 H → G H) ∧
  ∀ i F1 H v H', i < xs.length → Same F F1 → Sub F1 H → Y i H v H' → ∃ x, xs[i]? = some x ∧ ((H' = H ∧ Rp K F v x) ∨ ∃ T vs ys, v = .ref T ∧ H T = none ∧ H' = upd H T (.tup vs) ∧ x = .tuple ys ∧ Rps K F vs ys)
def tDI (K : PySem.W.Frag) (E : Ent) (f : DTF) : TI := fun st H R => ∃ F r P, Rel K E F H st r ∧ f r P ∧ ∀ xs r' F' H' J, P xs r' → Aft K E F H st r F' H' r' → DWalk K F' J xs → R J H'
theorem wkI {tg it : Expr} {t t' : TI} (h : PI X tg it t) (k : ∀ st H R, t' st H R → t st H R) : PI X tg it t' := ⟨fun pins s st H R I q => h.run pins s st H R I (k _ _ _ q)⟩
/-- over a sequence that stays -/
def iSeq (fa : DT) (r : DEnv) (P : List PyData → DEnv → Prop) : Prop := dFz fa r fun s r1 => ∃ xs, (s = .d (.list xs)) ∧ P xs r1
def iTupD (fa : DT) (r : DEnv) (P : List PyData → DEnv → Prop) : Prop := dFz fa r fun s r1 => ∃ xs, (s = .d (.tuple xs)) ∧ P xs r1
theorem dwalk_list {p : Addr} {vs : List V} {xs : List PyData} (h : SqL K F p vs) (q : Rps K F vs xs) : DWalk K F (Itl K p) xs := by
  refine ⟨_, _, by rw [← rps_len q]; exact walk_list (K := K) (a := p) (xs := vs), fun F1 H s g => g.seq (s.seq h), fun i F1 H v H' hi s g y => ?_⟩
  obtain ⟨x, e, z⟩ := rps_at' q y.2
  exact ⟨x, e, .inl ⟨y.1, z⟩⟩
theorem dwalk_tup {p : Addr} {vs : List V} {xs : List PyData} (h : SqT K F p vs) (q : Rps K F vs xs) : DWalk K F (Itt K p) xs := by
  refine ⟨_, _, by rw [← rps_len q]; exact walk_tup (K := K) (a := p) (xs := vs), fun F1 H s g => g.tup (sameT s h), fun i F1 H v H' hi s g y => ?_⟩
  obtain ⟨x, e, z⟩ := rps_at' q y.2
  exact ⟨x, e, .inl ⟨y.1, z⟩⟩
theorem di_list {tg : Expr} (h : DE E X e fa) : PI X tg e (tDI X.K E (iSeq fa)) :=
  wkI (pi_list (de_fz h)) fun st H R ⟨F, r, P, R0, p, k⟩ => ⟨F, r, _, R0, p, fun s r1 v F1 H1 q1 A1 ok n => by
    obtain ⟨xs, e, q⟩ := q1
    subst e
    cases (show Rp X.K F1 v (.list xs) from ok) with
    | lst h1 h2 => exact ⟨_, rfl, ⟨_, A1.rel.sub.seq h1⟩, k _ _ _ _ _ q A1 (dwalk_list h1 h2)⟩⟩
theorem di_tup {tg : Expr} (h : DE E X e fa) : PI X tg e (tDI X.K E (iTupD fa)) :=
  wkI (pi_tup (de_fz h)) fun st H R ⟨F, r, P, R0, p, k⟩ => ⟨F, r, _, R0, p, fun s r1 v F1 H1 q1 A1 ok n => by
    obtain ⟨xs, e, q⟩ := q1
    subst e
    cases (show Rp X.K F1 v (.tuple xs) from ok) with
    | tup h1 h2 => exact ⟨_, rfl, ⟨_, A1.rel.sub.tup (SqT.of h1)⟩, k _ _ _ _ _ q A1 (dwalk_tup (SqT.of h1) h2)⟩⟩
def rngL (lo : Int) (n : Nat) : List PyData := (List.range n).map fun i => .int (lo + (i : Nat))
theorem dwalk_range {lo : Int} {n : Nat} : DWalk K F (Itr lo n) (rngL lo n) := by
  refine ⟨_, _, by rw [show (rngL lo n).length = n by unfold rngL; simp]; exact walk_range (lo := lo) (n := n), fun _ _ _ _ => trivial, fun i F1 H v H' hi s g y => ?_⟩
  have hi' : i < n := by unfold rngL at hi; simpa using hi
  refine ⟨.int (lo + (i : Nat)), by unfold rngL; simp [hi'], .inl ⟨y.1, ?_⟩⟩
  rw [y.2]
  exact .int _
def bnd (i : Int) : Prop := -(2 ^ 62) ≤ i ∧ i < 2 ^ 62
def iRange1 (ga : DTF) (r : DEnv) (P : List PyData → DEnv → Prop) : Prop := ga r fun xs r1 => ∃ j, xs = [.int j] ∧ bnd j ∧ P (rngL 0 j.toNat) r1
def iRange2 (ga : DTF) (r : DEnv) (P : List PyData → DEnv → Prop) : Prop := ga r fun xs r1 => ∃ i j, xs = [.int i, .int j] ∧ bnd i ∧ bnd j ∧ P (rngL i (j - i).toNat) r1
theorem di_range1 {tg : Expr} {p pos : Pos} {ga : DTF} (hg : Gl X "range") (hm : X.mg "range" = none) (ha : DF E X [a] ga) (hs : starEach [a] X.env = [(false, eval a X.env)] := by rfl) : PI X tg (.Call (.Name "range" p) [a] [] pos) (tDI X.K E (iRange1 ga)) :=
  wkI (pi_range1 hg hm ha hs) fun st H R ⟨F, r, P, R0, p, k⟩ => ⟨F, r, _, R0, p, fun xs r1 vs F1 H1 q1 A1 ok => by
    obtain ⟨j, e, hb, q⟩ := q1
    subst e
    cases ok with
    | cons h t =>
      cases t
      cases h
      exact ⟨j, rfl, hb.1, hb.2, k _ _ _ _ _ q A1 dwalk_range⟩⟩
theorem di_range2 {tg : Expr} {p pos : Pos} {ga : DTF} (hg : Gl X "range") (hm : X.mg "range" = none) (ha : DF E X [a, b] ga) (hs : starEach [a, b] X.env = [(false, eval a X.env), (false, eval b X.env)] := by rfl) (hs2 : starEach [b] X.env = [(false, eval b X.env)] := by rfl) : PI X tg (.Call (.Name "range" p) [a, b] [] pos) (tDI X.K E (iRange2 ga)) :=
  wkI (pi_range2 hg hm ha hs hs2) fun st H R ⟨F, r, P, R0, p, k⟩ => ⟨F, r, _, R0, p, fun xs r1 vs F1 H1 q1 A1 ok => by
    obtain ⟨i, j, e, hb, hb', q⟩ := q1
    subst e
    cases ok with
    | cons h t =>
      cases t with
      | cons h' t =>
        cases t
        cases h
        cases h'
        exact ⟨i, j, rfl, ⟨hb.1, hb.2, hb'.1, hb'.2⟩, k _ _ _ _ _ q A1 dwalk_range⟩⟩
def ForIn (xs : List PyData) (r1 : DEnv) (tg : DTG) (g : DTS) (P : DEnds) : Prop := ∃ I : List PyData → DEnv → Prop, I [] r1 ∧
  (∀ pre x post r', xs = pre ++ x :: post → I pre r' → tg x r' fun r2 => g { P with nx := I (pre ++ [x]), ct := I (pre ++ [x]), bk := P.nx } r2) ∧ ∀ r', I xs r' → P.nx r'
def sFor (gi : DTF) (tg : DTG) (g : DTS) (P : DEnds) (r : DEnv) : Prop := gi r fun xs r1 => ForIn xs r1 tg g P
theorem split_at {α : Type} {xs : List α} {i : Nat} {x : α} (h : xs[i]? = some x) : xs = xs.take i ++ x :: xs.drop (i + 1) ∧ xs.take (i + 1) = xs.take i ++ [x] := by
  obtain ⟨hi, e⟩ := List.getElem?_eq_some_iff.mp h
  refine ⟨?_, ?_⟩
  · rw [← e, List.getElem_cons_drop, List.take_append_drop]
  · rw [List.take_succ, h]
    rfl
theorem ds_for {tg it : Expr} {gi : DTF} {dg : DTG} (h : PS X (.For tg it body [] pos) (tFor (tDI X.K E gi) (tDG X.K E dg) (tDS X.K E g))) : DS E X (.For tg it body [] pos) (sFor gi dg g) := by
  refine wkS h fun D st H ⟨F, r, P, R, p, k⟩ => ⟨F, r, _, R, p, fun xs r1 F1 H1 J q1 A1 w => ?_⟩
  obtain ⟨I, i0, step, fin⟩ := q1
  obtain ⟨G, Y, wk, gg, yy⟩ := w
  refine for_it wk (fun i st' H' => ∃ F2 r2, Rel X.K E F2 H' st' r2 ∧ Same F1 F2 ∧ I (xs.take i) r2) ⟨F1, r1, A1.rel, Same.refl _, by rw [List.take_zero]; exact i0⟩ (fun i st' H' _ ⟨F2, r2, R2, s2, _⟩ => gg F2 H' s2 R2.sub) ?_ ?_
  · rintro i v st' H2 H3 hi ⟨F2, r2, R2, s2, i2⟩ y
    obtain ⟨x, ex, alt⟩ := yy i F2 H2 v H3 hi s2 R2.sub y
    obtain ⟨e1, e2⟩ := split_at ex
    have body := step _ x _ r2 e1 i2
    rw [← e2] at body
    have go : ∀ F3, Rel X.K E F3 H3 st' r2 → Same F2 F3 → Rp X.K F3 v x → tDG X.K E dg v st' H3 fun σ2 H2 => tDS X.K E g
        { D with nx := fun st' H' => ∃ F2 r2, Rel X.K E F2 H' st' r2 ∧ Same F1 F2 ∧ I (xs.take (i + 1)) r2, ct := fun st' H' => ∃ F2 r2, Rel X.K E F2 H' st' r2 ∧ Same F1 F2 ∧ I (xs.take (i + 1)) r2, bk := D.nx } σ2 H2 := fun F3 R3 s3 ok =>
      ⟨F3, r2, _, x, R3, ok, body, fun r4 st4 F4 H4 p4 R4 s4 => ⟨F4, r4, _, R4, p4,
        fun r5 st5 F5 H5 p5 R5 s5 => ⟨F5, r5, R5, ((s2.trans s3).trans s4).trans s5, p5⟩, k.rt,
        fun r5 st5 F5 H5 p5 R5 s5 => k.nx _ _ _ _ p5 R5 ((((A1.stp.gf.trans s2).trans s3).trans s4).trans s5), fun r5 st5 F5 H5 p5 R5 s5 => ⟨F5, r5, R5, ((s2.trans s3).trans s4).trans s5, p5⟩⟩⟩
    rcases alt with ⟨rfl, ok⟩ | ⟨T, vs, ys, rfl, nT, rfl, rfl, ok⟩
    · exact go F2 R2 (Same.refl _) (rpM s2 ok)
    · have B := R2.new (o := .tup vs) nT
      exact go _ B.rel B.stp.gf (.tup upd_same (rpsM (s2.trans B.stp.gf) ok))
  · rintro st' H' ⟨F2, r2, R2, s2, i2⟩
    rw [List.take_length] at i2
    exact k.nx _ _ _ _ (fin _ i2) R2 (A1.stp.gf.trans s2)
def WhileIn (r : DEnv) (t : DTT) (g : DTS) (P : DEnds) : Prop := ∃ I : Nat → DEnv → Prop, (∃ m, I m r) ∧ ∀ m r1, I m r1 → t r1 fun b r2 => if b = true then g { P with nx := fun r' => ∃ m', m' < m ∧ I m' r', ct := fun r' => ∃ m', m' < m ∧ I m' r', bk := P.nx } r2 else P.nx r2
def sWhile (t : DTT) (g : DTS) (P : DEnds) (r : DEnv) : Prop := WhileIn r t g P
theorem ds_while {t : DTT} (h : PS X (.While c body [] pos) (tWhile (tDT X.K E t) (tDS X.K E g))) : DS E X (.While c body [] pos) (sWhile t g) := by
  refine wkS h fun D st H ⟨F, r, P, R, p, k⟩ => ?_
  obtain ⟨I, ⟨m0, i0⟩, step⟩ := p
  refine ⟨fun m st' H' => ∃ F2 r2, Rel X.K E F2 H' st' r2 ∧ Same F F2 ∧ I m r2, ⟨m0, F, r, R, Same.refl _, i0⟩, ?_⟩
  rintro m st' H' ⟨F2, r2, R2, s2, i2⟩
  refine ⟨F2, r2, _, R2, step m r2 i2, fun b r3 F3 H3 q3 A3 => ?_⟩
  cases b with
  | true =>
    rw [if_pos rfl] at q3 ⊢
    refine ⟨fun st' H' => ∃ m', m' < m ∧ ∃ F2 r2, Rel X.K E F2 H' st' r2 ∧ Same F F2 ∧ I m' r2, fun st4 H4 ⟨m', hm, w⟩ => ⟨m', hm, w⟩, F3, r3, _, A3.rel, q3, fun r5 st5 F5 H5 p5 R5 s5 => ?_, k.rt, fun r5 st5 F5 H5 p5 R5 s5 => k.nx _ _ _ _ p5 R5 ((s2.trans A3.stp.gf).trans s5), fun r5 st5 F5 H5 p5 R5 s5 => ?_⟩
    · obtain ⟨m', hm, i5⟩ := p5
      exact ⟨m', hm, F5, r5, R5, (s2.trans A3.stp.gf).trans s5, i5⟩
    · obtain ⟨m', hm, i5⟩ := p5
      exact ⟨m', hm, F5, r5, R5, (s2.trans A3.stp.gf).trans s5, i5⟩
  | false =>
    rw [if_neg Bool.false_ne_true] at q3 ⊢
    exact k.nx _ _ _ _ q3 A3.rel (s2.trans A3.stp.gf)
end
end DL
set_option Elab.async false
set_option linter.all false
set_option autoImplicit false
set_option maxRecDepth 100000
set_option maxHeartbeats 4000000
/-! DLe: the data layer, part five: comprehensions. -/
namespace DL
open PySem PySem.Spec PyProof.Rows L2
section
variable {X : Cx} {E : Ent} {K : PySem.W.Frag} {F H F' H' : Hp} {st : St} {r r' : DEnv}
def wipeD (r : DEnv) : List Nat → DEnv
  | [] => r
  | v :: vs => (wipeD r vs).set v none
theorem wipeD_len (r : DEnv) : ∀ vs : List Nat, (wipeD r vs).length = r.length
  | [] => rfl
  | v :: vs => by unfold wipeD; rw [List.length_set, wipeD_len r vs]
theorem wipeD_some {r : DEnv} {i : Nat} {x : Sl} : ∀ {vs : List Nat}, (wipeD r vs)[i]? = some (some x) → r[i]? = some (some x) ∧ i ∉ vs
  | [], h => ⟨h, by simp⟩
  | v :: vs, h => by
    unfold wipeD at h
    by_cases e : v = i
    · subst e
      rw [List.getElem?_set] at h
      split at h
      · split at h <;> cases h
      · rename_i z; exact (z rfl).elim
    · rw [List.getElem?_set_ne e] at h
      obtain ⟨a, b⟩ := wipeD_some h
      exact ⟨a, fun m => by
        rcases List.mem_cons.mp m with z | z
        · exact e z.symm
        · exact b z⟩
theorem wipe_at {st : St} {i : Nat} : ∀ {vs : List Nat}, i ∉ vs → (wipe st vs)[i]? = st[i]?
  | [], _ => rfl
  | v :: vs, h => by
    unfold wipe
    rw [List.getElem?_set_ne (show v ≠ i from fun z => h (z ▸ List.mem_cons_self)), wipe_at fun m => h (List.mem_cons_of_mem _ m)]
theorem wipe_in {st : St} {i : Nat} : ∀ {vs : List Nat}, i ∈ vs → (wipe st vs)[i]? = if i < st.length then some none else none
  | v :: vs, h => by
    unfold wipe
    by_cases e : v = i
    · subst e
      rw [List.getElem?_set, if_pos rfl, wipe_length]
    · rw [List.getElem?_set_ne e]
      exact wipe_in (by
        rcases List.mem_cons.mp h with z | z
        · exact (e z.symm).elim
        · exact z)
theorem wipe_idem {st : St} {own : List Nat} : wipe (wipe st own) own = wipe st own := by
  apply List.ext_getElem?
  intro i
  by_cases h : i ∈ own
  · rw [wipe_in h, wipe_in h, wipe_length]
  · rw [wipe_at h]
/-- behind a comprehension its own names are as they were, if they held data -/
def keepD (r : DEnv) (i : Nat) : Option Sl := match r[i]? with
  | some (some (.d x)) => some (.d x)
  | _ => none
def backD (r0 r : DEnv) : List Nat → DEnv
  | [] => r
  | v :: vs => (backD r0 r vs).set v (keepD r0 v)
theorem backD_len (r0 r : DEnv) : ∀ vs : List Nat, (backD r0 r vs).length = r.length
  | [] => rfl
  | v :: vs => by unfold backD; rw [List.length_set, backD_len r0 r vs]
theorem backD_some {r0 r : DEnv} {i : Nat} {x : Sl} : ∀ {vs : List Nat}, (backD r0 r vs)[i]? = some (some x) → (i ∉ vs ∧ r[i]? = some (some x)) ∨ (i ∈ vs ∧ ∃ y, x = .d y ∧ r0[i]? = some (some (.d y)))
  | [], h => .inl ⟨by simp, h⟩
  | v :: vs, h => by
    unfold backD at h
    by_cases e : v = i
    · subst e
      rw [List.getElem?_set] at h
      split at h
      · split at h
        · have h : some (keepD r0 v) = some (some x) := h
          unfold keepD at h
          split at h
          · rename_i y q
            cases h
            exact .inr ⟨List.mem_cons_self, y, rfl, q⟩
          · cases h
        · cases h
      · rename_i z; exact (z rfl).elim
    · rw [List.getElem?_set_ne e] at h
      rcases backD_some h with ⟨a, b⟩ | ⟨a, b⟩
      · exact .inl ⟨fun m => by
          rcases List.mem_cons.mp m with z | z
          · exact e z.symm
          · exact a z, b⟩
      · exact .inr ⟨List.mem_cons_of_mem _ a, b⟩
theorem Rel.wiped (R : Rel K E F H st r) (own : List Nat) : Rel K E F H (wipe st own) (wipeD r own) := by
  refine ⟨R.sub, R.grow, R.keep, R.ever, R.nofr, by rw [wipe_length, wipeD_len]; exact R.len, fun i x q => ?_, fun i x q => ?_, fun i x q => ?_, fun i j s t a h1 h2 m1 m2 s1 s2 => ?_⟩
  · obtain ⟨a, b⟩ := wipeD_some q
    rw [wipe_at b]
    exact R.dat i x a
  · obtain ⟨a, b⟩ := wipeD_some q
    rw [wipe_at b]
    exact R.own i x a
  · obtain ⟨a, b⟩ := wipeD_some q
    rw [wipe_at b]
    exact R.bor i x a
  · exact R.sep i j s t a (wipeD_some h1).1 (wipeD_some h2).1 m1 m2 (wipe_some s1).1 (wipe_some s2).1
theorem mutA_wiped {own : List Nat} {a : Addr} (m : MutA (wipe st own) (wipeD r own) a) : MutA st r a := by
  obtain ⟨i, s, h1, h2, h3⟩ := m
  exact ⟨i, s, (wipeD_some h1).1, h2, (wipe_some h3).1⟩
/-- back in the frame -/
theorem Aft.unwiped {own : List Nat} (R : Rel K E F H st r) (A : Aft K E F H (wipe st own) (wipeD r own) F' H' r') : Aft K E F H st r F' H' (backD r r' own) := by
  have B := A.rel
  have mu : ∀ i s, (backD r r' own)[i]? = some (some s) → Sl.mu s = true → i ∉ own ∧ r'[i]? = some (some s) := fun i s q m => by
    rcases backD_some q with h | ⟨_, y, e, _⟩
    · exact h
    · subst e; cases m
  refine ⟨⟨B.sub, B.grow, B.keep, B.ever, B.nofr, by rw [backD_len, ← B.len, wipe_length], fun i x q => ?_, fun i x q => ?_, fun i x q => ?_, fun i j s t a h1 h2 m1 m2 s1 s2 => ?_⟩,
    ⟨A.stp.gf, fun a o e m => A.stp.keep a o e fun z => m (mutA_wiped z), A.stp.ever, fun a o e n m => A.stp.nofr a o e n fun z => m (mutA_wiped z)⟩, fun a ⟨i, s, h1, h2, h3⟩ => ?_⟩
  · rcases backD_some q with ⟨h1, h2⟩ | ⟨_, y, e, h2⟩
    · obtain ⟨v, e1, e2⟩ := B.dat i x h2
      rw [wipe_at h1] at e1
      exact ⟨v, e1, e2⟩
    · cases e
      obtain ⟨v, e1, e2⟩ := R.dat i _ h2
      exact ⟨v, e1, rpM A.stp.gf e2⟩
  · obtain ⟨h1, h2⟩ := mu i _ q rfl
    obtain ⟨p, e1, e2⟩ := B.own i x h2
    rw [wipe_at h1] at e1
    exact ⟨p, e1, e2⟩
  · obtain ⟨h1, h2⟩ := mu i _ q rfl
    obtain ⟨p, e1, e2⟩ := B.bor i x h2
    rw [wipe_at h1] at e1
    exact ⟨p, e1, e2⟩
  · obtain ⟨a1, a2⟩ := mu i s h1 m1
    obtain ⟨b1, b2⟩ := mu j t h2 m2
    exact B.sep i j s t a a2 b2 m1 m2 (by rw [wipe_at a1]; exact s1) (by rw [wipe_at b1]; exact s2)
  · obtain ⟨a1, a2⟩ := mu i s h1 h2
    obtain ⟨j, t, z1, z2, z3⟩ := A.mu a ⟨i, s, a2, h2, by rw [wipe_at a1]; exact h3⟩
    exact ⟨j, t, (wipeD_some z1).1, z2, (wipe_some z3).1⟩
/-- an object that no name has, and that is new, is written -/
theorem Aft.write {p : Addr} {o : HO} (A : Aft K E F H st r F' H' r') (e0 : E.H0 p = none) (n : H p = none) (f : F' p = none) (m : ¬ MutA st r' p) (h : ∃ u, H' p = some u) : Aft K E F H st r F' (upd H' p o) r' := by
  have B := A.rel
  have ob : ∀ q x, ObAt K F' H' q x → q ≠ p → ObAt K F' (upd H' p o) q x := fun q x z ne => z.mono (Same.refl _) z.some.2 fun w e => by rw [upd_ne ne]; exact e
  refine ⟨⟨fun a u q => ?_, B.grow, fun a u q z => ?_, fun a u q => ?_, B.nofr, B.len, B.dat, fun i x q => ?_, fun i x q => ?_, B.sep⟩, ⟨A.stp.gf, fun a u q z => ?_, fun a u q => ?_, A.stp.nofr⟩, A.mu⟩
  · have : a ≠ p := fun z => by rw [z, f] at q; cases q
    rw [upd_ne this]
    exact B.sub a u q
  · rw [upd_ne fun z => by rw [z, e0] at q; cases q]
    exact B.keep a u q z
  · by_cases h : a = p
    · rw [h, e0] at q; cases q
    · rw [upd_ne h]
      exact B.ever a u q
  · obtain ⟨w, q1, q2, q3⟩ := B.own i x q
    exact ⟨w, q1, q2, ob _ _ q3 fun z => m ⟨i, _, q, rfl, z ▸ q1⟩⟩
  · obtain ⟨w, q1, q2, q3, q4⟩ := B.bor i x q
    exact ⟨w, q1, q2, q3, ob _ _ q4 fun z => m ⟨i, _, q, rfl, z ▸ q1⟩⟩
  · rw [upd_ne fun e => by rw [e, n] at q; cases q]
    exact A.stp.keep a u q z
  · rw [upd_ne fun e => by rw [e, n] at q; cases q]
    exact A.stp.ever a u q

/-! ### a comprehension's targets: they store into its own names alone -/
def CT (K : PySem.W.Frag) (E : Ent) (own : List Nat) (g : TG) (dg : DTG) : Prop := ∀ v st H Q F r P x, Rel K E F H st r → Rp K F v x → dg x r P → (∀ r' st', P r' → Rel K E F H st' r' → wipe st' own = wipe st own → MutA st' r' = MutA st r → Q st' H) → g v st H Q
def CTs (K : PySem.W.Frag) (E : Ent) (own : List Nat) (g : TGs) (dg : DTGs) : Prop := ∀ vs st H Q F r P xs, Rel K E F H st r → Rps K F vs xs → dg xs r P → (∀ r' st', P r' → Rel K E F H st' r' → wipe st' own = wipe st own → MutA st' r' = MutA st r → Q st' H) → g vs st H Q
theorem wipe_set {st : St} {i : Nat} {v : Option V} : ∀ {own : List Nat}, i ∈ own → wipe (st.set i v) own = wipe st own
  | j :: js, h => by
    unfold wipe
    by_cases e : i ∈ js
    · rw [wipe_set e]
    · have : i = j := by
        rcases List.mem_cons.mp h with z | z
        · exact z
        · exact (e z).elim
      subst this
      clear h
      have out : ∀ (ks : List Nat), i ∉ ks → wipe (st.set i v) ks = (wipe st ks).set i v := fun ks => by
        induction ks with
        | nil => intro _; rfl
        | cons k ks ih =>
          intro h
          unfold wipe
          rw [ih fun m => h (List.mem_cons_of_mem _ m)]
          exact List.set_comm _ _ (fun z => h (z ▸ List.mem_cons_self))
      rw [out js e, List.set_set]
theorem mutA_put {i : Nat} {v : V} {x : PyData} (h : ∀ s, r[i]? = some (some s) → Sl.mu s = false) : MutA (st.set i (some v)) (r.set i (some (.d x))) = MutA st r := by
  funext a
  apply propext
  constructor
  · rintro ⟨j, s, h1, h2, h3⟩
    by_cases e : j = i
    · subst e
      rw [List.getElem?_set] at h1
      split at h1
      · split at h1
        · cases h1; cases h2
        · cases h1
      · rename_i z; exact (z rfl).elim
    · rw [List.getElem?_set_ne (Ne.symm e)] at h1 h3
      exact ⟨j, s, h1, h2, h3⟩
  · rintro ⟨j, s, h1, h2, h3⟩
    have e : j ≠ i := fun e => by
      subst e
      rw [h s h1] at h2
      cases h2
    exact ⟨j, s, by rw [List.getElem?_set_ne (Ne.symm e)]; exact h1, h2, by rw [List.getElem?_set_ne (Ne.symm e)]; exact h3⟩
/-- a name of its own; it holds no object of one's own -/
def hOwn (i : Nat) (x : PyData) (r : DEnv) (Q : DEnv → Prop) : Prop := (match r[i]? with
  | some (some s) => Sl.mu s = false
  | _ => True) ∧ Q (r.set i (some (.d x)))
theorem ct_name {own : List Nat} {i : Nat} (hi : i ∈ own) : CT K E own (gName i) (hOwn i) := fun v st H Q F r P x R q p k => by
  refine k _ _ p.2 (R.put (.inl ⟨x, rfl, q⟩)) (wipe_set hi) (mutA_put fun s e => ?_)
  have := p.1
  rw [e] at this
  exact this
theorem cts_nil {own : List Nat} : CTs K E own gNil hNil := fun vs st H Q F r P xs R q p k => by
  obtain ⟨e, p⟩ := p
  subst e
  cases q
  exact ⟨rfl, k _ _ p R rfl rfl⟩
theorem cts_cons {own : List Nat} {g : TG} {gs : TGs} {dg : DTG} {dgs : DTGs} (h1 : CT K E own g dg) (h2 : CTs K E own gs dgs) : CTs K E own (gCons g gs) (hCons dg dgs) := fun vs st H Q F r P xs R q p k => by
  obtain ⟨y, ys, e, p⟩ := p
  subst e
  cases q with
  | cons q1 q2 => exact ⟨_, _, rfl, h1 _ st H _ F r _ y R q1 p fun r1 st1 p1 R1 w1 m1 => h2 _ st1 H _ F r1 _ ys R1 q2 p1 fun r2 st2 p2 R2 w2 m2 => k _ _ p2 R2 (w2.trans w1) (m2.trans m1)⟩
theorem ct_tup {own : List Nat} {n : Nat} {gs : TGs} {dgs : DTGs} (h : CTs K E own gs dgs) : CT K E own (gTup K n gs) (hTup n dgs) := fun v st H Q F r P x R q p k => by
  obtain ⟨xs, e, l, p⟩ := p
  subst e
  cases q with
  | tup a b => exact ⟨_, _, rfl, R.sub.tup (SqT.of a), by rw [rps_len b]; exact l, h _ st H Q F r P xs R b p k⟩

/-- the comprehension's reading over data -/
def LcIn (xs : List PyData) (r1 : DEnv) (dg : DTG) (tt : DTT) (fe : DT) (own : List Nat) (P : Vl → DEnv → Prop) : Prop := ∃ I : List PyData → List PyData → DEnv → Prop, I [] [] (wipeD r1 own) ∧
  (∀ pre x post acc r', xs = pre ++ x :: post → I pre acc r' → dg x r' fun r2 => tt r2 fun b r3 => if b = true then dFz fe r3 fun s r4 => ∃ y, s = .d y ∧ acc.length < sizeLine ∧ I (pre ++ [x]) (acc ++ [y]) (wipeD r4 own)
    else I (pre ++ [x]) acc (wipeD r3 own)) ∧ ∀ acc r', I xs acc r' → P (.n (.list acc)) (backD r1 r' own)
def dLc (gi : DTF) (dg : DTG) (tt : DTT) (fe : DT) (own : List Nat) (r : DEnv) (P : Vl → DEnv → Prop) : Prop := gi r fun xs r1 => LcIn xs r1 dg tt fe own P
def dtYes (r : DEnv) (P : Bool → DEnv → Prop) : Prop := P true r
theorem lc_main {gi : DTF} {g : TG} {dg : DTG} {tt : DTT} {fe : DT} {own : List Nat} (ct : CT K E own g dg) : ∀ st H Q, tD K E (dLc gi dg tt fe own) st H Q → tLc (tDI K E gi) g (tDT K E tt) (tD K E (dFz fe)) own st H Q := by
  rintro st H Q ⟨F, r, P, R, p, k⟩
  refine ⟨F, r, _, R, p, fun xs r1 F1 H1 J q1 A1 w D nD => ?_⟩
  obtain ⟨I, i0, step, fin⟩ := q1
  obtain ⟨G, Y, wk, gg, yy⟩ := w
  have R1 := A1.rel.wiped own
  have e0 : E.H0 D = none := A1.rel.fresh0 nD
  have W1 : Aft K E F1 H1 (wipe st own) (wipeD r1 own) F1 (upd H1 D (.lst [])) (wipeD r1 own) := R1.newH nD
  refine lc_it wk (fun i H' => ∃ F2 r2 acc vs, Aft K E F1 H1 (wipe st own) (wipeD r1 own) F2 H' r2 ∧ H' D = some (.lst vs) ∧ F2 D = none ∧ ¬ MutA (wipe st own) r2 D ∧ Rps K F2 vs acc ∧ I (xs.take i) acc r2)
    ⟨F1, _, [], [], W1, upd_same, A1.rel.sub.free nD, R1.notMut nD, .nil, by rw [List.take_zero]; exact i0⟩ (fun i H' _ ⟨F2, r2, _, _, A2, _⟩ => gg F2 H' A2.stp.gf A2.rel.sub) ?_ ?_
  · rintro i v H2 H3 hi ⟨F2, r2, acc, vs, A2, hD, fD, mD, ra, i2⟩ y
    obtain ⟨x, ex, alt⟩ := yy i F2 H2 v H3 hi A2.stp.gf A2.rel.sub y
    obtain ⟨e1, e2⟩ := split_at ex
    have body := step _ x _ acc r2 e1 i2
    rw [← e2] at body
    have go : ∀ F3, Aft K E F1 H1 (wipe st own) (wipeD r1 own) F3 H3 r2 → Same F2 F3 → F3 D = none → H3 D = some (.lst vs) → Rp K F3 v x → g v (wipe st own) H3 fun st2 H2 => wipe st2 own = wipe st own ∧ tDT K E tt st2 H2 fun b H3 =>
        if b = true then tD K E (dFz fe) st2 H3 fun y H4 => ∃ acc, H4 D = some (.lst acc) ∧ acc.length < sizeLine ∧ (∃ F2 r2 acc2 vs, Aft K E F1 H1 (wipe st own) (wipeD r1 own) F2 (upd H4 D (.lst (acc ++ [y]))) r2 ∧
            (upd H4 D (.lst (acc ++ [y]))) D = some (.lst vs) ∧ F2 D = none ∧ ¬ MutA (wipe st own) r2 D ∧ Rps K F2 vs acc2 ∧ I (xs.take (i + 1)) acc2 r2)
        else ∃ F2 r2 acc vs, Aft K E F1 H1 (wipe st own) (wipeD r1 own) F2 H3 r2 ∧ H3 D = some (.lst vs) ∧ F2 D = none ∧ ¬ MutA (wipe st own) r2 D ∧ Rps K F2 vs acc ∧ I (xs.take (i + 1)) acc r2 := by
      intro F3 A3 s3 fD3 hD3 ok
      refine ct v (wipe st own) H3 _ F3 r2 _ x A3.rel ok body fun r4 st4 p4 R4 w4 m4 => ⟨w4.trans wipe_idem, F3, r4, _, R4, p4, fun b r5 F5 H5 q5 A5 => ?_⟩
      have mD4 : ¬ MutA st4 r4 D := by rw [m4]; exact mD
      have toW : ∀ {F6 H6 r6}, Aft K E F3 H3 st4 r4 F6 H6 r6 → Aft K E F1 H1 (wipe st own) (wipeD r1 own) F6 H6 (wipeD r6 own) ∧ H6 D = some (.lst vs) ∧ F6 D = none ∧ ¬ MutA st4 r6 D ∧ ¬ MutA (wipe st own) (wipeD r6 own) D := by
        intro F6 H6 r6 A6
        have z1 : H6 D = some (.lst vs) := A6.stp.keep D _ hD3 mD4
        have z2 : F6 D = none := (A6.stp.nofr D _ hD3 fD3 mD4).fin A6.rel.sub z1 fun _ z => nomatch z
        have z3 : ¬ MutA st4 r6 D := fun m => mD4 (A6.mu D m)
        have ew : wipe st4 own = wipe st own := w4.trans wipe_idem
        have RW : Rel K E F6 H6 (wipe st own) (wipeD r6 own) := by rw [← ew]; exact A6.rel.wiped own
        have mm : ∀ a, MutA (wipe st own) (wipeD r6 own) a → MutA (wipe st own) r2 a := fun a m => by
          rw [← ew] at m
          have m1 := A6.mu a (mutA_wiped m)
          rw [m4] at m1
          exact m1
        refine ⟨⟨RW, ⟨A3.stp.gf.trans A6.stp.gf, fun a o e m => ?_, fun a o e => ?_, fun a o e n m => ?_⟩, fun a m => A3.mu a (mm a m)⟩, z1, z2, z3, fun m => mD (mm D m)⟩
        · refine A6.stp.keep a o (A3.stp.keep a o e m) fun z => m (A3.mu a ?_)
          rw [m4] at z
          exact z
        · obtain ⟨u, q⟩ := A3.stp.ever a o e
          exact A6.stp.ever a u q
        · refine (A3.stp.nofr a o e n m).then A6.stp.gf fun n' => A6.stp.nofr a o (A3.stp.keep a o e m) n' fun z => m (A3.mu a ?_)
          rw [m4] at z
          exact z
      cases b with
      | false =>
        rw [if_neg Bool.false_ne_true] at q5
        show if false = true then _ else _
        rw [if_neg Bool.false_ne_true]
        obtain ⟨z1, z2, z3, z4, z5⟩ := toW A5
        exact ⟨F5, _, acc, vs, z1, z2, z3, z5, rpsM (s3.trans A5.stp.gf) ra, q5⟩
      | true =>
        rw [if_pos rfl] at q5
        show if true = true then _ else _
        rw [if_pos rfl]
        refine ⟨F5, r5, _, A5.rel, q5, fun s r6 u F6 H6 q6 A6 ok6 n6 => ?_⟩
        obtain ⟨y, es, hl, i6⟩ := q6
        subst es
        obtain ⟨z1, z2, z3, z4, z5⟩ := toW (A5.trans A6)
        have ra6 := rpsM ((s3.trans A5.stp.gf).trans A6.stp.gf) ra
        exact ⟨vs, z2, by rw [rps_len ra6]; exact hl, F6, _, acc ++ [y], _, z1.write e0 nD z3 z5 ⟨_, z2⟩, upd_same, z3, z5, rps_app ra6 (.cons ok6 .nil), i6⟩
    rcases alt with ⟨rfl, ok⟩ | ⟨T, ws, ys, rfl, nT, rfl, rfl, ok⟩
    · exact go F2 A2 (Same.refl _) fD hD (rpM A2.stp.gf ok)
    · have B := A2.rel.new (o := .tup ws) nT
      have nTD : D ≠ T := ne_of_none hD nT
      exact go _ (A2.trans B) B.stp.gf (by rw [upd_ne nTD]; exact fD) (by rw [upd_ne nTD]; exact hD) (.tup upd_same (rpsM (A2.stp.gf.trans B.stp.gf) ok))
  · rintro H' ⟨F2, r2, acc, vs, A2, hD, fD, mD, ra, i2⟩
    rw [List.take_length] at i2
    have A3 := A1.trans (A2.unwiped A1.rel)
    refine k (.n (.list acc)) _ _ F2 H' (fin acc r2 i2) A3 ⟨D, rfl, ⟨vs, fD, hD, ra⟩, fun m => mD ?_⟩ fun p e => ?_
    · obtain ⟨j, s, h1, h2, h3⟩ := m
      rcases backD_some h1 with ⟨a, b⟩ | ⟨_, y, e, _⟩
      · exact ⟨j, s, b, h2, by rw [wipe_at a]; exact h3⟩
      · subst e; cases h2
    · cases e
      exact A1.newBack (v := V.ref D) (s := .n (.list acc)) (fun q e => by cases e; exact nD) D rfl
end
end DL
set_option Elab.async false
set_option linter.all false
set_option autoImplicit false
set_option maxRecDepth 100000
set_option maxHeartbeats 4000000
/-! DLf: the data layer, part six: comprehensions as rules; promises of defs and their calls. -/
namespace DL
open PySem PySem.Spec PyProof.Rows L2
section
variable {X : Cx} {E : Ent} {K : PySem.W.Frag} {F H F' H' : Hp} {st : St} {r r' : DEnv} {pos : Pos}
theorem dpts_nil : PTs X [] (tDT X.K E dtYes) := ⟨fun pins s st H Q I ⟨F, r, P, R, p, k⟩ => (pts_nil (X := X)).run pins s st H Q I (k _ _ _ _ p (.refl R))⟩
theorem dpts_one {c : Expr} {t : DTT} (h : DTe E X c t) : PTs X [c] (tDT X.K E t) := pts_one h
theorem de_lc {elt tg iter : Expr} {ifs : List Expr} {scope : Scope} {own : List (Str × Nat)} {gi : DTF} {g : TG} {dg : DTG} {tt : DTT} {fe : DT} (hc : X.calm = true) (hN : X.N.Nodup) (hi : PI X tg iter (tDI X.K E gi)) (ok : BlkOk X.N X.env.scope scope own)
    (ct : CT X.K E (own.map (·.2)) g dg) (hg : ∀ (s : Shared) (H : Hp) (C : Addr) (cl : List (Str × Addr)) (fp : List Addr), PG (X.blk s H scope (compEnvC scope cl C X.env) fp) tg g)
    (ht : ∀ (s : Shared) (H : Hp) (C : Addr) (cl : List (Str × Addr)) (fp : List Addr), PTs (X.blk s H scope (compEnvC scope cl C X.env) fp) ifs (tDT X.K E tt))
    (he : ∀ (s : Shared) (H : Hp) (C : Addr) (cl : List (Str × Addr)) (fp : List Addr), DE E (X.blk s H scope (compEnvC scope cl C X.env) fp) elt fe) (hs : ∀ x, foldedSetIterable iter X.env x = pure x := by intro _; rfl) :
    DE E X (.ListComp elt [⟨tg, iter, ifs, 0⟩] scope pos) (dLc gi dg tt fe (own.map (·.2))) :=
  wkE (pe_lc (te := tD X.K E (dFz fe)) hc hN hi ok hg ht (fun s H C cl fp => de_fz (he s H C cl fp)) hs) (lc_main ct)
/-- name = [..] -/
theorem ds_setLc {i : Nat} {y : Str} {py : Pos} {elt tg iter : Expr} {ifs : List Expr} {scope : Scope} {own : List (Str × Nat)} {spos : Pos} {gi : DTF} {g : TG} {dg : DTG} {tt : DTT} {fe : DT} (hc : X.calm = true) (hN : X.N.Nodup) (hy : X.N[i]? = some y) (hyl : X.env.scope.names.lookup y = some .local)
    (hsw : swapsWith (.ListComp elt [⟨tg, iter, ifs, 0⟩] scope pos) (some (.Name y py)) spos.line X.env = pure true) (hi : PI X tg iter (tDI X.K E gi)) (ok : BlkOk X.N X.env.scope scope own)
    (ct : CT X.K E (own.map (·.2)) g dg) (hg : ∀ (s : Shared) (H : Hp) (C : Addr) (cl : List (Str × Addr)) (fp : List Addr), PG (X.blk s H scope (compEnvC scope cl C X.env) fp) tg g)
    (ht : ∀ (s : Shared) (H : Hp) (C : Addr) (cl : List (Str × Addr)) (fp : List Addr), PTs (X.blk s H scope (compEnvC scope cl C X.env) fp) ifs (tDT X.K E tt))
    (he : ∀ (s : Shared) (H : Hp) (C : Addr) (cl : List (Str × Addr)) (fp : List Addr), DE E (X.blk s H scope (compEnvC scope cl C X.env) fp) elt fe) (hs : ∀ x, foldedSetIterable iter X.env x = pure x := by intro _; rfl) :
    DS E X (.Assign [.Name y py] (.ListComp elt [⟨tg, iter, ifs, 0⟩] scope pos) spos) (sSet i (dLc gi dg tt fe (own.map (·.2)))) := by
  have h := ps_setLc (i := i) (spos := spos) (py := py) (te := tD X.K E (dFz fe)) hc hN hy hyl hsw hi ok hg ht (fun s H C cl fp => de_fz (he s H C cl fp)) hs
  exact ds_set (wkS h fun D st H q => lc_main ct st H _ q)

/-! ### promises -/
/-- what is raised: the class's name, its fields -/
structure Exn where
  name : Str
  fs : List (Str × PyData) := []
def ExnOk (K : PySem.W.Frag) (mg : Str → Option Value) (F H : Hp) (x : Exn) (cls : Value) (d : Option Addr) : Prop :=
  (∃ C, mg x.name = some (.ref C) ∧ cls = .ref C) ∧ ((x.fs = [] ∧ d = none) ∨ ∃ a gs, d = some a ∧ H a = some (.xd gs) ∧ Paired (fun (p : Str × V) (q : Str × PyData) => p.1 = q.1 ∧ Rp K F p.2 q.2) gs x.fs)
structure ArgsOk (K : PySem.W.Frag) (F H : Hp) (vs : List V) (as : List Sl) (bp : Option Addr) : Prop where
  len : vs.length = as.length
  dat : ∀ (i : Nat) (x : PyData), as[i]? = some (Sl.d x) → ∃ v, vs[i]? = some v ∧ Rp K F v x
  bor : ∀ (i : Nat) (x : PyData), as[i]? = some (Sl.b x) → ∃ p, vs[i]? = some (V.ref p) ∧ bp = some p ∧ ObAt K F H p x
  one : ∀ (i j : Nat) (x y : PyData), as[i]? = some (Sl.b x) → as[j]? = some (Sl.b y) → i = j
  nol : ∀ (i : Nat) (x : PyData), as[i]? ≠ some (Sl.l x)
  has : ∀ p, bp = some p → ∃ (i : Nat) (x : PyData), as[i]? = some (Sl.b x)
/-- what a call leaves -/
structure Left (K : PySem.W.Frag) (F H : Hp) (bp : Option Addr) (F' H' : Hp) (cs : Option PyData) : Prop where
  gf : Same F F'
  sub : Sub F' H'
  keep : ∀ a o, H a = some o → bp ≠ some a → H' a = some o
  ever : ∀ a o, H a = some o → ∃ u, H' a = some u
  nofr : ∀ a o, H a = some o → F a = none → NoF F' a
  con : ∀ p, bp = some p → ∃ y, cs = some y ∧ ObAt K F' H' p y
def ResOk (K : PySem.W.Frag) (F' H' H : Hp) (v : V) : Sl → Prop
  | .d x => Rp K F' v x
  | .l x => ∃ p, v = .ref p ∧ ObAt K F' H' p x ∧ H p = none
  | .b _ => False
/-- what a def does over data: its arguments; what is wanted of the result and of the lent object; of what is raised -/
abbrev DSpec := List Sl → (Sl → Option PyData → Prop) → (Exn → Prop) → Prop
def spD (K : PySem.W.Frag) (mg : Str → Option Value) (n : Nat) (S : DSpec) : Sp := fun vs H Q EX => vs.length = n ∧ ∃ F as bp P PX, Sub F H ∧ ArgsOk K F H vs as bp ∧ S as P PX ∧
  (∀ s cs v F' H', P s cs → Left K F H bp F' H' cs → ResOk K F' H' H v s → Q v H') ∧ ∀ x cls d F' H', PX x → bp = none → Left K F H none F' H' none → ExnOk K mg F' H' x cls d → EX cls d H'
/-- the lent object at the end -/
def exitB : List Sl → DEnv → Option (Option PyData)
  | [], _ => some none
  | .b _ :: _, some (.b y) :: _ => some (some y)
  | .b _ :: _, _ => none
  | _ :: as, _ :: r => exitB as r
  | _ :: _, [] => none
theorem exitB_at : ∀ {as : List Sl} {r : DEnv} {cs : Option PyData} {i : Nat} {x : PyData}, exitB as r = some cs → as[i]? = some (Sl.b x) → (∀ (j : Nat) (y : PyData), as[j]? = some (Sl.b y) → j = i) → ∃ y, cs = some y ∧ r[i]? = some (some (Sl.b y))
  | [], _, _, i, _, _, h, _ => by simp at h
  | .b z :: as, r, cs, i, x, e, h, o => by
    have i0 : (0 : Nat) = i := o 0 z rfl
    subst i0
    match r, e with
    | some (.b y) :: r, e => exact ⟨y, (Option.some.inj e).symm, rfl⟩
    | some (.d y) :: r, e => cases e
    | some (.l y) :: r, e => cases e
    | none :: r, e => cases e
    | [], e => cases e
  | .d z :: as, r, cs, 0, x, e, h, o => by simp at h
  | .l z :: as, r, cs, 0, x, e, h, o => by simp at h
  | .d z :: as, t :: r, cs, i + 1, x, e, h, o => by
    have e' : exitB as r = some cs := e
    exact exitB_at (r := r) e' (by simpa using h) fun j y q => Nat.succ.inj (o (j + 1) y (by simpa using q))
  | .l z :: as, t :: r, cs, i + 1, x, e, h, o => by
    have e' : exitB as r = some cs := e
    exact exitB_at (r := r) e' (by simpa using h) fun j y q => Nat.succ.inj (o (j + 1) y (by simpa using q))
  | .d z :: as, [], cs, i + 1, x, e, h, o => by cases e
  | .l z :: as, [], cs, i + 1, x, e, h, o => by cases e
/-- the names at a def's entry -/
def entD (n : Nat) (as : List Sl) : DEnv := as.map some ++ List.replicate (n - as.length) none
theorem entD_at {n : Nat} {as : List Sl} {i : Nat} {s : Sl} (h : (entD n as)[i]? = some (some s)) : as[i]? = some s := by
  unfold entD at h
  by_cases hi : i < as.length
  · rw [List.getElem?_append_left (by simpa using hi), List.getElem?_map] at h
    cases e : as[i]? with
    | none => rw [e] at h; cases h
    | some a => rw [e] at h; cases h; rfl
  · rw [List.getElem?_append_right (by simpa using hi), List.getElem?_replicate] at h
    split at h <;> cases h
theorem start_at {N : List Str} {vs : List V} {i : Nat} {v : V} (h : vs[i]? = some v) : (L2.start N vs)[i]? = some (some v) := by
  unfold L2.start
  rw [List.getElem?_append_left (by simpa using (List.getElem?_eq_some_iff.mp h).1), List.getElem?_map, h]
  rfl
theorem rel_entry {N : List Str} {vs : List V} {as : List Sl} {bp : Option Addr} (g : Sub F H) (A : ArgsOk K F H vs as bp) : Rel K ⟨F, H, vs, bp.toList⟩ F H (L2.start N vs) (entD N.length as) := by
  refine ⟨g, Same.refl _, fun _ _ e _ => e, fun _ o e => ⟨o, e⟩, fun _ _ _ e => .inl e, ?_, fun i x q => ?_, fun i x q => ?_, fun i x q => ?_, fun i j s t a h1 h2 m1 m2 s1 s2 => ?_⟩
  · unfold L2.start entD
    simp [A.len]
  · obtain ⟨v, e, z⟩ := A.dat i x (entD_at q)
    exact ⟨v, start_at e, z⟩
  · exact (A.nol i x (entD_at q)).elim
  · obtain ⟨p, e, hb, z⟩ := A.bor i x (entD_at q)
    exact ⟨p, start_at e, e, by rw [hb]; simp, z⟩
  · cases s with
    | d x => cases m1
    | l x => exact (A.nol i x (entD_at h1)).elim
    | b x => cases t with
      | d y => cases m2
      | l y => exact (A.nol j y (entD_at h2)).elim
      | b y => exact A.one i j x y (entD_at h1) (entD_at h2)
/-- from a frame: what it leaves -/
theorem Rel.left {vs : List V} {as : List Sl} {bp : Option Addr} {F0 H0 : Hp} {cs : Option PyData} (A : ArgsOk K F0 H0 vs as bp) (R : Rel K ⟨F0, H0, vs, bp.toList⟩ F H st r) (e : exitB as r = some cs) : Left K F0 H0 bp F H cs := by
  refine ⟨R.grow, R.sub, fun a o q n => R.keep a o q fun m => n ?_, R.ever, R.nofr, fun p q => ?_⟩
  · cases bp with
    | none => simp at m
    | some p => simp at m; rw [m]
  · obtain ⟨i, x, h⟩ := A.has p q
    obtain ⟨y, e1, e2⟩ := exitB_at e h fun j y z => A.one j i y x z h
    refine ⟨y, e1, ?_⟩
    obtain ⟨p', _, z1, _, z2⟩ := R.bor i y e2
    obtain ⟨p2, w1, w2, _⟩ := A.bor i x h
    have z1 : vs[i]? = some (V.ref p') := z1
    rw [w1] at z1
    cases z1
    rw [q] at w2
    cases w2
    exact z2
end
section
variable {P : Program} {w : World} {K : PySem.W.Frag} {mg : Str → Option Value} {base : Heap}
def Sl.isB : Sl → Bool
  | .b _ => true
  | _ => false
def noB (as : List Sl) : Bool := as.all fun s => !s.isB
/-- how a def's end is told -/
def endD (as : List Sl) (Q : Sl → Option PyData → Prop) : DEnds where
  nx := fun r => ∃ cs, exitB as r = some cs ∧ Q (.d .none) cs
  rt := fun s r => ∃ cs, exitB as r = some cs ∧ Q s cs
/-- what a body may raise -/
def RaisesOk (K : PySem.W.Frag) (mg : Str → Option Value) (E : Ent) (PX : Exn → Prop) (EX : XK) : Prop := ∀ F st r H x cls d, Rel K E F H st r → PX x → ExnOk K mg F H x cls d → EX cls d H
/-- a def, by its body's reading over data -/
theorem fnD {x qual : Str} {st : Stmt} {f : Addr} {fd : FuncData} {N ps : List Str} {k : Nat} {S : DSpec} (F : Fun K x qual st f fd) (Sc : FnScope N ps (defScope st))
    (body : ∀ (cdv : Value) (A : Around) (outer : List Env) (s : Shared) (H : Hp) (EX : XK) (E : Ent) (as : List Sl) (Q : Sl → Option PyData → Prop) (PX : Exn → Prop),
      Room k (A.deeper (envOfC qual (defScope st) s.heap.objs.size f cdv)) → A.guards = some [] → as.length = ps.length → S as Q PX → (noB as = true → RaisesOk K mg E PX EX) →
      ∃ g, DSs E (cxOf (L2.CX P w) P w K mg base N qual (defScope st) f cdv A outer s H EX) (defBody st) g ∧ g (endD as Q) (entD N.length as)) :
    FnG P w K mg base (k + 1) f fd ps (spD K mg ps.length S) := by
  refine Fun.okG F Sc (fun vs H Q EX h => h.1) fun cdv A outer s H vs Q EX hr hg h => ?_
  obtain ⟨hl, F0, as, bp, P0, PX, g0, A0, hS, hq, hx⟩ := h
  obtain ⟨g, hg1, hg2⟩ := body cdv A outer s H EX ⟨F0, H, vs, bp.toList⟩ as P0 PX hr hg (by rw [← A0.len]; exact hl) hS (fun hbs F1 st1 r1 H1 x cls d R1 px ex => by
    have e : bp = none := by
      cases bp with
      | none => rfl
      | some p =>
        obtain ⟨i, x, e⟩ := A0.has p rfl
        have := List.all_eq_true.mp hbs _ (List.mem_of_getElem? e)
        cases this
    subst e
    exact hx x cls d F1 H1 px rfl ⟨R1.grow, R1.sub, fun a o q _ => R1.keep a o q (by simp), R1.ever, R1.nofr, fun p q => nomatch q⟩ ex)
  refine ⟨_, hg1, F0, entD N.length as, endD as P0, rel_entry g0 A0, hg2, ⟨?_, ?_, fun _ _ _ _ z => z.elim, fun _ _ _ _ z => z.elim⟩⟩
  · rintro r' st' F' H' ⟨cs, e, q⟩ R' _
    exact hq _ cs .non F' H' q (R'.left A0 e) .non
  · rintro s r' v st' F' H' ⟨cs, e, q⟩ R' ok
    refine hq _ cs v F' H' q (R'.left A0 e) ?_
    cases s with
    | d x => exact ok
    | l x =>
      obtain ⟨p, e1, z, e0⟩ := ok
      exact ⟨p, e1, z, e0⟩
    | b x => exact ok
end
end DL
set_option Elab.async false
set_option linter.all false
set_option autoImplicit false
set_option maxRecDepth 100000
set_option maxHeartbeats 4000000
/-! DLg: the data layer, part seven: calls of defs. -/
namespace DL
open PySem PySem.Spec PyProof.Rows L2
def argOf (r : DEnv) : Vl → Option Sl
  | .d x => some (.d x)
  | .v i => match r[i]? with
    | some (some (.l x)) => some (.b x)
    | some (some (.b x)) => some (.b x)
    | _ => none
  | .n _ => none
def argsOf (r : DEnv) : List Vl → Option (List Sl)
  | [] => some []
  | s :: t => match argOf r s, argsOf r t with
    | some a, some b => some (a :: b)
    | _, _ => none
def oneB : List Sl → Bool
  | [] => true
  | .b _ :: t => noB t
  | _ :: t => oneB t
def firstV : List Vl → Option Nat
  | [] => none
  | .v i :: _ => some i
  | _ :: t => firstV t
def setC (r : DEnv) (i : Nat) (y : PyData) : DEnv := match r[i]? with
  | some (some (.l _)) => r.set i (some (.l y))
  | some (some (.b _)) => r.set i (some (.b y))
  | _ => r
def putB (r : DEnv) (ss : List Vl) : Option PyData → DEnv
  | none => r
  | some y => match firstV ss with
    | some i => setC r i y
    | none => r
def resV : Sl → Vl
  | .d x => .d x
  | .l x => .n x
  | .b x => .n x
section
variable {X : Cx} {E : Ent} {K : PySem.W.Frag} {F H F' H' : Hp} {st : St} {r r' : DEnv} {pos : Pos} {ss : List Vl} {as : List Sl} {vs : List V}
theorem args_get : ∀ {ss : List Vl} {as : List Sl}, argsOf r ss = some as → ss.length = as.length ∧ ∀ (i : Nat) (a : Sl), as[i]? = some a → ∃ s, ss[i]? = some s ∧ argOf r s = some a
  | [], as, h => by
    cases (show some [] = some as from h)
    exact ⟨rfl, fun i a e => by simp at e⟩
  | s :: t, as, h => by
    unfold argsOf at h
    split at h
    · rename_i a b h1 h2
      cases h
      obtain ⟨l, g⟩ := args_get h2
      refine ⟨congrArg (· + 1) l, fun i x e => ?_⟩
      cases i with
      | zero =>
        simp only [List.getElem?_cons_zero, Option.some.injEq] at e ⊢
        exact ⟨s, rfl, e ▸ h1⟩
      | succ i =>
        simp only [List.getElem?_cons_succ] at e ⊢
        exact g i x e
    · cases h
theorem paired_get {α β : Type} {R : α → β → Prop} {xs : List α} {ys : List β} (h : Paired R xs ys) : ∀ {i : Nat} {y : β}, ys[i]? = some y → ∃ x, xs[i]? = some x ∧ R x y := by
  induction h with
  | nil => intro i y e; simp at e
  | cons a _ ih =>
    intro i y e
    cases i with
    | zero =>
      simp only [List.getElem?_cons_zero, Option.some.injEq] at e ⊢
      exact ⟨_, rfl, e ▸ a⟩
    | succ i =>
      simp only [List.getElem?_cons_succ] at e ⊢
      exact ih e
theorem paired_len {α β : Type} {R : α → β → Prop} {xs : List α} {ys : List β} (h : Paired R xs ys) : xs.length = ys.length := by
  induction h with
  | nil => rfl
  | cons _ _ ih => exact congrArg (· + 1) ih
theorem noB_at {as : List Sl} (h : noB as = true) {i : Nat} {x : PyData} : as[i]? ≠ some (Sl.b x) := fun e => by
  have := List.all_eq_true.mp h _ (List.mem_of_getElem? e)
  cases this
theorem oneB_one : ∀ {as : List Sl}, oneB as = true → ∀ (i j : Nat) (x y : PyData), as[i]? = some (Sl.b x) → as[j]? = some (Sl.b y) → i = j
  | [], _, i, _, _, _, e, _ => by simp at e
  | .b z :: t, h, i, j, x, y, e1, e2 => by
    cases i with
    | zero => cases j with
      | zero => rfl
      | succ j => exact (noB_at h (by simpa using e2)).elim
    | succ i => exact (noB_at h (by simpa using e1)).elim
  | .d z :: t, h, i, j, x, y, e1, e2 => by
    cases i with
    | zero => simp at e1
    | succ i => cases j with
      | zero => simp at e2
      | succ j => exact congrArg (· + 1) (oneB_one (as := t) h i j x y (by simpa using e1) (by simpa using e2))
  | .l z :: t, h, i, j, x, y, e1, e2 => by
    cases i with
    | zero => simp at e1
    | succ i => cases j with
      | zero => simp at e2
      | succ j => exact congrArg (· + 1) (oneB_one (as := t) h i j x y (by simpa using e1) (by simpa using e2))
theorem firstV_mem : ∀ {ss : List Vl} {i : Nat}, firstV ss = some i → ∃ j : Nat, ss[j]? = some (Vl.v i)
  | .v k :: t, i, h => by cases (show some k = some i from h); exact ⟨0, rfl⟩
  | .d x :: t, i, h => by
    obtain ⟨j, e⟩ := firstV_mem (ss := t) (show firstV t = some i from h)
    exact ⟨j + 1, by simpa using e⟩
  | .n x :: t, i, h => by
    obtain ⟨j, e⟩ := firstV_mem (ss := t) (show firstV t = some i from h)
    exact ⟨j + 1, by simpa using e⟩
theorem argOf_v {i : Nat} {a : Sl} (h : argOf r (.v i) = some a) : ∃ s, r[i]? = some (some s) ∧ Sl.mu s = true ∧ a = .b s.it := by
  have h : (match r[i]? with
    | some (some (.l x)) => some (.b x)
    | some (some (.b x)) => some (.b x)
    | _ => none) = some a := h
  split at h
  · rename_i x e; cases h; exact ⟨_, e, rfl, rfl⟩
  · rename_i x e; cases h; exact ⟨_, e, rfl, rfl⟩
  · cases h
theorem firstV_at : ∀ {ss : List Vl} {as : List Sl} {i j : Nat}, argsOf r ss = some as → oneB as = true → ss[i]? = some (Vl.v j) → firstV ss = some j
  | [], _, i, _, _, _, e => by simp at e
  | s :: t, as, i, j, h, o, e => by
    unfold argsOf at h
    split at h
    · rename_i a b h1 h2
      cases h
      cases s with
      | d x =>
        cases (show some (Sl.d x) = some a from h1)
        cases i with
        | zero => simp at e
        | succ i => exact firstV_at (ss := t) h2 o (by simpa using e)
      | n x => cases h1
      | v k =>
        obtain ⟨s, _, _, ea⟩ := argOf_v h1
        subst ea
        cases i with
        | zero => simp only [List.getElem?_cons_zero, Option.some.injEq, Vl.v.injEq] at e; subst e; rfl
        | succ i =>
          exfalso
          have e : t[i]? = some (Vl.v j) := by simpa using e
          obtain ⟨l, g⟩ := args_get h2
          have hi : i < b.length := by rw [← l]; exact (List.getElem?_eq_some_iff.mp e).1
          obtain ⟨s', e1, e2⟩ := g i b[i] (by simp [hi])
          rw [e] at e1
          cases e1
          obtain ⟨s3, _, _, e3⟩ := argOf_v e2
          exact noB_at o (i := i) (x := s3.it) (by rw [← e3]; simp [hi])
    · cases h
def bpOf (st : St) (ss : List Vl) : Option Addr := match firstV ss with
  | some i => match st[i]? with
    | some (some (.ref p)) => some p
    | _ => none
  | none => none
theorem Rel.mu_at {i : Nat} {s : Sl} (R : Rel K E F H st r) (e : r[i]? = some (some s)) (m : Sl.mu s = true) : ∃ p, st[i]? = some (some (V.ref p)) ∧ ObAt K F H p s.it := by
  cases s with
  | d x => cases m
  | l x => obtain ⟨p, a, _, b⟩ := R.own i x e; exact ⟨p, a, b⟩
  | b x => obtain ⟨p, a, _, _, b⟩ := R.bor i x e; exact ⟨p, a, b⟩
theorem args_ok (R : Rel K E F H st r) (h : Paired (VlOk K F H st r) vs ss) (e : argsOf r ss = some as) (o : oneB as = true) : ArgsOk K F H vs as (bpOf st ss) ∧
    ∀ p, bpOf st ss = some p → ∃ i s, firstV ss = some i ∧ r[i]? = some (some s) ∧ Sl.mu s = true ∧ st[i]? = some (some (V.ref p)) := by
  obtain ⟨hl, g⟩ := args_get e
  have slot : ∀ i, firstV ss = some i → ∃ s, r[i]? = some (some s) ∧ Sl.mu s = true := fun i q => by
    obtain ⟨j, ej⟩ := firstV_mem q
    have hj : j < as.length := by rw [← hl]; exact (List.getElem?_eq_some_iff.mp ej).1
    obtain ⟨s, e1, e2⟩ := g j as[j] (by simp [hj])
    rw [ej] at e1
    cases e1
    obtain ⟨s, a, b, _⟩ := argOf_v e2
    exact ⟨s, a, b⟩
  refine ⟨⟨(paired_len h).trans hl, fun i x q => ?_, fun i x q => ?_, oneB_one o, fun i x q => ?_, fun p q => ?_⟩, fun p q => ?_⟩
  · obtain ⟨s, e1, e2⟩ := g i _ q
    obtain ⟨v, e3, ok⟩ := paired_get h e1
    cases s with
    | d y => cases (show some (Sl.d y) = some (Sl.d x) from e2); exact ⟨v, e3, ok⟩
    | v j => obtain ⟨s, _, _, z⟩ := argOf_v e2; cases z
    | n y => cases e2
  · obtain ⟨s, e1, e2⟩ := g i _ q
    obtain ⟨v, e3, ok⟩ := paired_get h e1
    cases s with
    | d y => cases e2
    | n y => cases e2
    | v j =>
      obtain ⟨s, a, b, z⟩ := argOf_v e2
      cases z
      obtain ⟨p, w1, w2⟩ := R.mu_at a b
      have ok : st[j]? = some (some v) := ok
      rw [w1] at ok
      cases ok
      refine ⟨p, e3, ?_, w2⟩
      unfold bpOf
      rw [firstV_at e o e1]
      simp only [w1]
  · obtain ⟨s, e1, e2⟩ := g i _ q
    cases s with
    | d y => cases e2
    | v j => obtain ⟨s, _, _, z⟩ := argOf_v e2; cases z
    | n y => cases e2
  · unfold bpOf at q
    split at q
    · rename_i i ei
      obtain ⟨j, ej⟩ := firstV_mem ei
      have hj : j < as.length := by rw [← hl]; exact (List.getElem?_eq_some_iff.mp ej).1
      obtain ⟨s, e1, e2⟩ := g j as[j] (by simp [hj])
      rw [ej] at e1
      cases e1
      obtain ⟨s, a, b, z⟩ := argOf_v e2
      exact ⟨j, s.it, by rw [← z]; simp [hj]⟩
    · cases q
  · unfold bpOf at q
    split at q
    · rename_i i ei
      split at q
      · rename_i p' ep
        cases q
        obtain ⟨s, a, b⟩ := slot i ei
        exact ⟨i, s, by first | rfl | assumption, a, b, ep⟩
      · cases q
    · cases q
theorem setC_at {i : Nat} {y : PyData} {s : Sl} (e : r[i]? = some (some s)) (m : Sl.mu s = true) : ∃ s', setC r i y = r.set i (some s') ∧ Sl.mu s' = true ∧ ((∃ x, s = .l x) ∧ s' = .l y ∨ (∃ x, s = .b x) ∧ s' = .b y) := by
  cases s with
  | d x => cases m
  | l x => exact ⟨.l y, by unfold setC; rw [e], rfl, .inl ⟨⟨x, rfl⟩, rfl⟩⟩
  | b x => exact ⟨.b y, by unfold setC; rw [e], rfl, .inr ⟨⟨x, rfl⟩, rfl⟩⟩
/-- behind a call -/
theorem Rel.after {bp : Option Addr} {cs : Option PyData} (R : Rel K E F H st r) (L : Left K F H bp F' H' cs) (hb : ∀ p, bp = some p → ∃ i s, firstV ss = some i ∧ r[i]? = some (some s) ∧ Sl.mu s = true ∧ st[i]? = some (some (V.ref p)))
    (hn : bp = none → cs = none ∨ firstV ss = none) : Aft K E F H st r F' H' (putB r ss cs) := by
  -- the addresses that names hold
  have inM : ∀ p, bp = some p → MutA st r p := fun p q => by
    obtain ⟨i, s, _, a, b, c⟩ := hb p q
    exact ⟨i, s, a, b, c⟩
  have stp : Stp F H F' H' (MutA st r) := ⟨L.gf, fun a o e m => L.keep a o e fun z => m (inM a z), L.ever, fun a o e n _ => L.nofr a o e n⟩
  have keepE : ∀ a o, E.H0 a = some o → a ∉ E.bs → H' a = some o := fun a o e m => by
    refine L.keep a o (R.keep a o e m) fun z => ?_
    obtain ⟨i, s, _, a1, b1, c1⟩ := hb a z
    cases s with
    | d x => cases b1
    | l x =>
      obtain ⟨p, e1, e2, _⟩ := R.own i x a1
      rw [c1] at e1
      cases e1
      rw [e] at e2
      cases e2
    | b x =>
      obtain ⟨p, e1, _, e2, _⟩ := R.bor i x a1
      rw [c1] at e1
      cases e1
      exact m e2
  have everE : ∀ a o, E.H0 a = some o → ∃ u, H' a = some u := fun a o e => by
    obtain ⟨u, q⟩ := R.ever a o e
    exact L.ever a u q
  have nofrE : ∀ a o, E.H0 a = some o → E.F0 a = none → NoF F' a := fun a o e n => by
    obtain ⟨u, q⟩ := R.ever a o e
    exact (R.nofr a o e n).then L.gf fun n' => L.nofr a u q n'
  have other : ∀ q x, ObAt K F H q x → bp ≠ some q → ObAt K F' H' q x := fun q x z ne => by
    obtain ⟨⟨u, hu⟩, f⟩ := z.some
    exact z.mono L.gf ((L.nofr q u hu f).fin L.sub (L.keep q u hu ne) (z.ntup hu)) fun o e => L.keep q o e ne
  cases hbp : bp with
  | none =>
    have er : putB r ss cs = r := by
      rcases hn hbp with z | z
      · rw [z]; rfl
      · unfold putB
        cases cs with
        | none => rfl
        | some y => simp only [z]
    rw [er]
    refine ⟨⟨L.sub, R.grow.trans L.gf, keepE, everE, nofrE, R.len, fun i x q => ?_, fun i x q => ?_, fun i x q => ?_, R.sep⟩, stp, fun _ m => m⟩
    · obtain ⟨v, e1, e2⟩ := R.dat i x q
      exact ⟨v, e1, rpM L.gf e2⟩
    · obtain ⟨p, e1, e2, e3⟩ := R.own i x q
      exact ⟨p, e1, e2, other _ _ e3 (by rw [hbp]; simp)⟩
    · obtain ⟨p, e1, e2, e3, e4⟩ := R.bor i x q
      exact ⟨p, e1, e2, e3, other _ _ e4 (by rw [hbp]; simp)⟩
  | some p =>
    obtain ⟨i, s, ei, a1, b1, c1⟩ := hb p hbp
    obtain ⟨y, ey, ob⟩ := L.con p hbp
    obtain ⟨s', es, ms, kind⟩ := setC_at (y := y) a1 b1
    have er : putB r ss cs = r.set i (some s') := by
      rw [ey]
      unfold putB
      simp only [ei]
      exact es
    rw [er]
    have il : i < r.length := (List.getElem?_eq_some_iff.mp a1).1
    have at_ : ∀ j t, (r.set i (some s'))[j]? = some (some t) → (j = i ∧ t = s') ∨ (j ≠ i ∧ r[j]? = some (some t)) := fun j t q => by
      by_cases h : j = i
      · subst h
        rw [List.getElem?_set_self il] at q
        cases q
        exact .inl ⟨rfl, rfl⟩
      · rw [List.getElem?_set_ne (Ne.symm h)] at q
        exact .inr ⟨h, q⟩
    have apart : ∀ (j : Nat) (t : Sl) (q : Addr), j ≠ i → r[j]? = some (some t) → Sl.mu t = true → st[j]? = some (some (V.ref q)) → bp ≠ some q := fun j t q ne e m sj z => by
      rw [hbp] at z
      cases z
      exact ne (R.sep j i t s p e a1 m b1 sj c1)
    refine ⟨⟨L.sub, R.grow.trans L.gf, keepE, everE, nofrE, by rw [List.length_set]; exact R.len, fun j x q => ?_, fun j x q => ?_, fun j x q => ?_, fun j l t u a h1 h2 m1 m2 s1 s2 => ?_⟩, stp, fun a ⟨j, t, h1, h2, h3⟩ => ?_⟩
    · rcases at_ j _ q with ⟨_, z⟩ | ⟨ne, z⟩
      · rw [← z] at ms; cases ms
      · obtain ⟨v, e1, e2⟩ := R.dat j x z
        exact ⟨v, e1, rpM L.gf e2⟩
    · rcases at_ j _ q with ⟨ej, z⟩ | ⟨ne, z⟩
      · subst ej
        rcases kind with ⟨⟨x0, k0⟩, k1⟩ | ⟨_, k1⟩
        · rw [k1] at z
          cases z
          subst k0
          obtain ⟨p', e1, e2, _⟩ := R.own j x0 a1
          rw [c1] at e1
          cases e1
          exact ⟨p, c1, e2, ob⟩
        · rw [k1] at z; cases z
      · obtain ⟨p', e1, e2, e3⟩ := R.own j x z
        exact ⟨p', e1, e2, other _ _ e3 (apart j _ p' ne z rfl e1)⟩
    · rcases at_ j _ q with ⟨ej, z⟩ | ⟨ne, z⟩
      · subst ej
        rcases kind with ⟨_, k1⟩ | ⟨⟨x0, k0⟩, k1⟩
        · rw [k1] at z; cases z
        · rw [k1] at z
          cases z
          subst k0
          obtain ⟨p', e1, e2, e3, _⟩ := R.bor j x0 a1
          rw [c1] at e1
          cases e1
          exact ⟨p, c1, e2, e3, ob⟩
      · obtain ⟨p', e1, e2, e3, e4⟩ := R.bor j x z
        exact ⟨p', e1, e2, e3, other _ _ e4 (apart j _ p' ne z rfl e1)⟩
    · have back : ∀ k w, (r.set i (some s'))[k]? = some (some w) → Sl.mu w = true → ∃ w', r[k]? = some (some w') ∧ Sl.mu w' = true := fun k w e m => by
        rcases at_ k w e with ⟨z, _⟩ | ⟨_, z⟩
        · subst z; exact ⟨s, a1, b1⟩
        · exact ⟨w, z, m⟩
      obtain ⟨t', q1, q2⟩ := back j t h1 m1
      obtain ⟨u', q3, q4⟩ := back l u h2 m2
      exact R.sep j l t' u' a q1 q3 q2 q4 s1 s2
    · rcases at_ j t h1 with ⟨z, _⟩ | ⟨_, z⟩
      · subst z; exact ⟨j, s, a1, b1, h3⟩
      · exact ⟨j, t, z, h2, h3⟩
/-- a def is called; what it raises is wished for by PX -/
def dCall (S : DSpec) (PX : Exn → Prop) (ha : DTA) (r : DEnv) (P : Vl → DEnv → Prop) : Prop := ha r fun ss r1 => ∃ as, argsOf r1 ss = some as ∧ oneB as = true ∧ S as (fun s cs => P (resV s) (putB r1 ss cs)) PX
theorem call_main {n : Nat} {S : DSpec} {EX : XK} {PX : Exn → Prop} {ha : DTA} (hx : RaisesOk X.K X.mg E PX EX) (hl : ∀ as Q PX, S as Q PX → as.length = n) {st : St} {H : Hp} {Q : VK} (h : tD X.K E (dCall S PX ha) st H Q) : tCall (spD X.K X.mg n S) [] EX (tDA X.K E ha) st H Q := by
  obtain ⟨F, r, P, R, p, k⟩ := h
  refine ⟨F, r, _, R, p, fun ss r1 vs F1 H1 q1 A1 ok1 o1 => ?_⟩
  obtain ⟨as, e, o, q⟩ := q1
  obtain ⟨A, hb⟩ := args_ok A1.rel ok1 e o
  refine ⟨by rw [List.append_nil, A.len]; exact hl _ _ _ q, F1, as, bpOf st ss, _, PX, A1.rel.sub, by rw [List.append_nil]; exact A, q, fun s cs v F' H' q2 L ok2 => ?_, fun x cls d F' H' px eb L ex => ?_⟩
  · have hn : bpOf st ss = none → cs = none ∨ firstV ss = none := fun z => by
      refine .inr ?_
      cases q3 : firstV ss with
      | none => rfl
      | some i =>
        exfalso
        obtain ⟨j, ej⟩ := firstV_mem q3
        obtain ⟨hl, g⟩ := args_get e
        have hj : j < as.length := by rw [← hl]; exact (List.getElem?_eq_some_iff.mp ej).1
        obtain ⟨s, e1, e2⟩ := g j as[j] (by simp [hj])
        rw [ej] at e1
        cases e1
        obtain ⟨s, a, b, _⟩ := argOf_v e2
        obtain ⟨p, w1, _⟩ := A1.rel.mu_at a b
        unfold bpOf at z
        simp only [q3, w1] at z
        cases z
    have B := A1.rel.after (ss := ss) L hb hn
    have C := A1.trans B
    cases s with
    | d x => exact k _ _ _ _ _ q2 C ok2 trivial
    | b x => exact ok2.elim
    | l x =>
      obtain ⟨p, e3, z, z0⟩ := ok2
      subst e3
      refine k (.n x) _ _ _ _ q2 C ⟨p, rfl, z, fun m => ?_⟩ (A1.newBack (v := V.ref p) (s := .n x) fun w e => by cases e; exact z0)
      obtain ⟨⟨u, hu⟩, _⟩ := A1.rel.mutIn (B.mu p m)
      rw [z0] at hu
      cases hu
  · have B := A1.rel.after (ss := []) (cs := none) L (fun p z => nomatch z) (fun _ => .inl rfl)
    exact hx F' st r1 H' x cls d B.rel px ex
theorem de_callD {e : Expr} {n : Nat} {S : DSpec} {EX : XK} {PX : Exn → Prop} {ha : DTA} (h1 : PE X e (tCall (spD X.K X.mg n S) [] EX (tDA X.K E ha))) (hx : RaisesOk X.K X.mg E PX EX) (hl : ∀ as Q PX, S as Q PX → as.length = n) : DE E X e (dCall S PX ha) :=
  wkE h1 fun st H Q h => call_main hx hl h
end
end DL
set_option Elab.async false
set_option linter.all false
set_option autoImplicit false
set_option maxRecDepth 100000
set_option maxHeartbeats 4000000
/-! DLh: the data layer, part eight: built-in functions and methods over data. -/
namespace DL
open PySem PySem.Spec PyProof.Rows L2
section
variable {X : Cx} {E : Ent} {e a b c : Expr} {es : List Expr} {pos p apos cpos : Pos} {fa fb fc : DT} {ga : DTF} {ha : DTA} {K : PySem.W.Frag} {F H F' H' : Hp} {st : St} {r r' : DEnv}

/-! ### items -/
def atD (xs : List PyData) (i : Int) : Option PyData := (ixN xs.length i).bind fun j => xs[j]?
def strAt (z : Str) (i : Int) : Option PyData := ((ixN z.cps.toList.length i).bind fun j => z.cps.toList[j]?).map fun c => .str ⟨#[c]⟩
/-- x[i] -/
def bIx : PyData → PyData → PyData → Prop := fun x y z => ∃ i, y = .int i ∧ match x with
  | .list xs => atD xs i = some z
  | .tuple xs => atD xs i = some z
  | .str s => s.length ≤ sizeLine ∧ strAt s i = some z
  | _ => False
theorem atI_of {vs : List V} {xs : List PyData} {i : Int} {z : PyData} (h : Rps K F vs xs) (e : atD xs i = some z) : ∃ v, atI vs i = some v ∧ Rp K F v z := by
  unfold atD at e
  unfold atI
  rw [rps_len h]
  cases q : ixN xs.length i with
  | none => rw [q] at e; cases e
  | some j =>
    rw [q] at e
    exact rps_at h e
theorem opB_ix : OpB K (rIx K) bIx := by
  intro F H v w x y z Q g h1 h2 ⟨i, e, h⟩ hy
  subst e
  have hw := h2.int
  subst hw
  cases x with
  | list xs =>
    obtain ⟨p, vs, ev, hs, rs⟩ := h1.seq g
    subst ev
    obtain ⟨u, e1, e2⟩ := atI_of rs h
    exact .inl ⟨p, vs, i, u, rfl, rfl, hs, e1, hy.1 _ e2⟩
  | tuple xs =>
    obtain ⟨p, vs, ev, hs, rs⟩ := h1.tup g
    subst ev
    obtain ⟨u, e1, e2⟩ := atI_of rs h
    exact .inr (.inl ⟨p, vs, i, u, rfl, rfl, hs, e1, hy.1 _ e2⟩)
  | str s =>
    have ev := h1.str
    subst ev
    obtain ⟨hz, h⟩ := h
    unfold strAt at h
    cases q : (ixN s.cps.toList.length i).bind fun j => s.cps.toList[j]? with
    | none => rw [q] at h; cases h
    | some c =>
      rw [q] at h
      cases h
      exact .inr (.inr ⟨s, i, c, rfl, rfl, hz, q, hy.1 _ (.str _)⟩)
  | none => exact h.elim
  | bool _ => exact h.elim
  | int _ => exact h.elim
  | dict _ => exact h.elim
theorem de_ix (ha : DE E X a fa) (hb : DE E X b fb) (hs : PlainIx b := by exact fun _ _ => rfl) : DE E X (.Subscript a b pos) (dOp bIx fa fb) := wkE (pe_ix ix_seq ha hb hs) (op_bin opB_ix)

/-! ### len, tuple, list -/
def bLen : List PyData → PyData → Prop := fun as z => ∃ x, as = [x] ∧ match x with
  | .list xs => z = .int (xs.length : Nat)
  | .tuple xs => z = .int (xs.length : Nat)
  | .str s => s.length ≤ sizeLine ∧ z = .int (s.length : Nat)
  | _ => False
theorem callR_or {f : Value} {r1 r2 : List V → Hp → VK → Prop} (h1 : CallR X f r1) (h2 : CallR X f r2) : CallR X f (fun xs H Q => r1 xs H Q ∨ r2 xs H Q) := by
  intro pins s σ H xs us Q I rx h
  rcases h with h | h
  · exact h1 pins s σ H xs us Q I rx h
  · exact h2 pins s σ H xs us Q I rx h
theorem de_len (hg : Gl X "len") (hm : X.mg "len" = none) (h : DA E X [e] ha) (he : starEach [e] X.env = (false, eval e X.env) :: starEach [] X.env := by rfl) (hpl : (backTo pos (starEach [] X.env)).any (·.1) = false := by rfl) :
    DE E X (.Call (.Name "len" p) [e] [] pos) (dB bLen ha) := by
  refine de_call (pe_callB (callR_or call_len_seq call_len_str) hg hm PySem.boot_len h (by decide) (by decide) he hpl) ?_
  intro F H vs xs z Q g rv ⟨x, e, h⟩ hy
  subst e
  cases rv with
  | cons rx t =>
    cases t
    cases x with
    | list xs =>
      obtain ⟨p, ws, ev, hs, rs⟩ := rx.seq g
      subst ev
      subst h
      rw [← rps_len rs] at hy
      exact .inl ⟨p, ws, rfl, .inl hs, hy.1 _ (.int _)⟩
    | tuple xs =>
      obtain ⟨p, ws, ev, hs, rs⟩ := rx.tup g
      subst ev
      subst h
      rw [← rps_len rs] at hy
      exact .inl ⟨p, ws, rfl, .inr hs, hy.1 _ (.int _)⟩
    | str s =>
      have ev := rx.str
      subst ev
      obtain ⟨hz, h⟩ := h
      subst h
      exact .inr ⟨s, rfl, hz, hy.1 _ (.int _)⟩
    | none => exact h.elim
    | bool _ => exact h.elim
    | int _ => exact h.elim
    | dict _ => exact h.elim
def bTuple : List PyData → PyData → Prop := fun as z => ∃ xs, (as = [.list xs] ∨ as = [.tuple xs]) ∧ z = .tuple xs
theorem de_tuple (hg : Gl X "tuple") (hm : X.mg "tuple" = none) (h : DA E X [e] ha) (he : starEach [e] X.env = (false, eval e X.env) :: starEach [] X.env := by rfl) (hpl : (backTo pos (starEach [] X.env)).any (·.1) = false := by rfl) :
    DE E X (.Call (.Name "tuple" p) [e] [] pos) (dB bTuple ha) := by
  refine de_call (pe_callTy call_tuple_of hg hm (by decide +kernel) h (by decide) (by decide) he hpl) ?_
  intro F H vs xs z Q g rv ⟨ys, e, ez⟩ hy
  subst ez
  rcases e with e | e
  · subst e
    cases rv with
    | cons rx t =>
      cases t
      obtain ⟨p, ws, ev, hs, rs⟩ := rx.seq g
      subst ev
      exact ⟨p, ws, rfl, .inl ⟨hs, fun l hl => hy.2 l _ _ hl (.tup upd_same (rpsM (same_upd (g.free hl)) rs))⟩⟩
  · subst e
    cases rv with
    | cons rx t =>
      cases t
      rcases rx with rx | ⟨q, _, z⟩
      · cases rx with
        | tup a b => exact ⟨_, _, rfl, .inr ⟨g.tup (SqT.of a), hy.1 _ (.tup a b)⟩⟩
      · exact z.elim
def bListOf : List PyData → List PyData → Prop := fun as zs => as = [.list zs] ∨ as = [.tuple zs]
theorem de_list (hg : Gl X "list") (hm : X.mg "list" = none) (h : DA E X [e] ha) (he : starEach [e] X.env = (false, eval e X.env) :: starEach [] X.env := by rfl) (hpl : (backTo pos (starEach [] X.env)).any (·.1) = false := by rfl) :
    DE E X (.Call (.Name "list" p) [e] [] pos) (dBL bListOf ha) := by
  refine de_callL (pe_callTy call_list_of hg hm (by decide +kernel) h (by decide) (by decide) he hpl) ?_
  intro F H vs xs zs Q g rv e hy
  rcases e with e | e
  · subst e
    cases rv with
    | cons rx t =>
      cases t
      obtain ⟨p, ws, ev, hs, rs⟩ := rx.seq g
      subst ev
      exact ⟨p, ws, rfl, .inl hs, fun l hl => hy l ws hl rs⟩
  · subst e
    cases rv with
    | cons rx t =>
      cases t
      obtain ⟨p, ws, ev, hs, rs⟩ := rx.tup g
      subst ev
      exact ⟨p, ws, rfl, .inr hs, fun l hl => hy l ws hl rs⟩

/-! ### all, any, sum, max, min, divmod -/
theorem rps_bools : ∀ {bs : List Bool} {vs : List V}, Rps K F vs (bs.map PyData.bool) → vs = bs.map V.bl
  | [], _, .nil => rfl
  | b :: bs, _, .cons h t => by cases h; rw [rps_bools t]; rfl
theorem rps_nums : ∀ {bs : List Int} {vs : List V}, Rps K F vs (bs.map PyData.int) → vs = bs.map V.int
  | [], _, .nil => rfl
  | b :: bs, _, .cons h t => by cases h; rw [rps_nums t]; rfl
def bAll : List PyData → PyData → Prop := fun as z => ∃ bs : List Bool, as = [.list (bs.map .bool)] ∧ z = .bool (bs.all id)
def bAny : List PyData → PyData → Prop := fun as z => ∃ bs : List Bool, as = [.list (bs.map .bool)] ∧ z = .bool (bs.any id)
theorem de_all (hc : X.calm = true) (hg : Gl X "all") (hm : X.mg "all" = none) (h : DA E X [e] ha) (he : starEach [e] X.env = (false, eval e X.env) :: starEach [] X.env := by rfl) (hpl : (backTo pos (starEach [] X.env)).any (·.1) = false := by rfl) :
    DE E X (.Call (.Name "all" p) [e] [] pos) (dB bAll ha) := by
  refine de_call (pe_callB (cr_all hc) hg hm (by decide +kernel) h (by decide) (by decide) he hpl) ?_
  intro F H vs xs z Q g rv ⟨bs, e, ez⟩ hy
  subst e ez
  cases rv with
  | cons rx t =>
    cases t
    obtain ⟨p, ws, ev, hs, rs⟩ := rx.seq g
    subst ev
    rw [rps_bools rs] at hs
    exact ⟨p, bs, rfl, hs, hy.1 _ (.bl _)⟩
theorem de_any (hc : X.calm = true) (hg : Gl X "any") (hm : X.mg "any" = none) (h : DA E X [e] ha) (he : starEach [e] X.env = (false, eval e X.env) :: starEach [] X.env := by rfl) (hpl : (backTo pos (starEach [] X.env)).any (·.1) = false := by rfl) :
    DE E X (.Call (.Name "any" p) [e] [] pos) (dB bAny ha) := by
  refine de_call (pe_callB (cr_any hc) hg hm (by decide +kernel) h (by decide) (by decide) he hpl) ?_
  intro F H vs xs z Q g rv ⟨bs, e, ez⟩ hy
  subst e ez
  cases rv with
  | cons rx t =>
    cases t
    obtain ⟨p, ws, ev, hs, rs⟩ := rx.seq g
    subst ev
    rw [rps_bools rs] at hs
    exact ⟨p, bs, rfl, hs, hy.1 _ (.bl _)⟩
/-- sum of a tuple of ints -/
theorem cr_sumT (hc : X.calm = true) : CallR X (.builtin "sum") (fun vs H Q => ∃ (a : Addr) (ns : List Int), vs = [V.ref a] ∧ SqT X.K H a (ns.map V.int) ∧ Q (.int ns.sum) H) := by
  intro pins s σ H vs us Q I rv h
  obtain ⟨a, ns, rfl, hs, q⟩ := h
  obtain ⟨its, ri, ht, _⟩ := I.tuple hs
  have hi : IntsAre its ns := ri.ints
  obtain ⟨xs, ex⟩ := hi.allInts.items
  have hn : numsOf (intItems xs).toList = ns := by rw [← ex]; exact hi.numsOf
  rw [nums_intItems] at hn
  cases rv with
  | cons r0 t =>
    cases t
    cases r0
    have hh := I.ok.hd hc
    have hlt : a < s.heap.objs.size := by
      obtain ⟨_, e, _⟩ := ht
      exact Heap.lt_size e
    have ht : s.heap.IsTuple a (intItems xs) := by rw [← ex]; exact ht
    refine call_sum_walkG (wpAny_pyIter_tuple ht ?_)
    refine ⟨_, _, _, _, _, _, numAt xs, rfl, Walks.tuple (A := X.A.in1) hh _ a (Nat.ne_of_lt hlt) (intItems xs), ⟨⟨_, Heap.get?_push_size _ rfl, rfl, rfl⟩, ht.push _⟩, ?_, fun _ _ => intItems_at, ?_⟩
    · intro b hb
      show b < (s.heap.push _).objs.size
      rw [Heap.size_push]
      rcases List.mem_cons.mp hb with rfl | hb
      · exact Nat.lt_succ_self _
      · cases List.mem_singleton.mp hb
        exact Nat.lt_succ_of_lt hlt
    · intro h' tk t' hk
      have keep : ∀ b o, s.heap.get? b = some o → h'.get? b = some o := fun b o e => hk b o (by
        intro m
        cases List.mem_singleton.mp m
        exact Nat.lt_irrefl _ (Heap.lt_size e)) (Heap.get?_push_of_some _ e)
      have e1 : preSum (numAt xs) (intItems xs).size = ns.sum := by
        rw [show (intItems xs).size = xs.size by simp [intItems], preSum_eq, List.take_of_length_le (by simp), hn]
      rw [e1]
      exact ⟨.int _, H, I.kept (t' := tk) keep, ⟨_, rfl⟩, q⟩
def bSum : List PyData → PyData → Prop := fun as z => ∃ ns : List Int, (as = [.list (ns.map .int)] ∨ as = [.tuple (ns.map .int)]) ∧ z = .int ns.sum
theorem de_sum (hc : X.calm = true) (hg : Gl X "sum") (hm : X.mg "sum" = none) (h : DA E X [e] ha) (he : starEach [e] X.env = (false, eval e X.env) :: starEach [] X.env := by rfl) (hpl : (backTo pos (starEach [] X.env)).any (·.1) = false := by rfl) :
    DE E X (.Call (.Name "sum" p) [e] [] pos) (dB bSum ha) := by
  refine de_call (pe_callB (callR_or (cr_sum hc) (cr_sumT hc)) hg hm (by decide +kernel) h (by decide) (by decide) he hpl) ?_
  intro F H vs xs z Q g rv ⟨ns, e, ez⟩ hy
  subst ez
  rcases e with e | e
  · subst e
    cases rv with
    | cons rx t =>
      cases t
      obtain ⟨p, ws, ev, hs, rs⟩ := rx.seq g
      subst ev
      rw [rps_nums rs] at hs
      exact .inl ⟨p, ns, rfl, hs, hy.1 _ (.int _)⟩
  · subst e
    cases rv with
    | cons rx t =>
      cases t
      obtain ⟨p, ws, ev, hs, rs⟩ := rx.tup g
      subst ev
      rw [rps_nums rs] at hs
      exact .inr ⟨p, ns, rfl, hs, hy.1 _ (.int _)⟩
def bMax2 : List PyData → PyData → Prop := fun as z => ∃ i j : Int, as = [.int i, .int j] ∧ z = .int (if j > i then j else i)
def bMin2 : List PyData → PyData → Prop := fun as z => ∃ i j : Int, as = [.int i, .int j] ∧ z = .int (if j < i then j else i)
theorem rdv2 {vs : List V} {i j : Int} (h : Paired (Rdv K F H) vs [.int i, .int j]) : vs = [.int i, .int j] := by
  cases h with
  | cons h1 t =>
    cases t with
    | cons h2 t =>
      cases t
      rw [h1.int, h2.int]
theorem de_max2 (hc : X.calm = true) (hg : Gl X "max") (hm : X.mg "max" = none) (h : DA E X [a, b] ha) (he : starEach [a, b] X.env = (false, eval a X.env) :: starEach [b] X.env := by rfl) (hpl : (backTo pos (starEach [b] X.env)).any (·.1) = false := by rfl) :
    DE E X (.Call (.Name "max" p) [a, b] [] pos) (dB bMax2 ha) := by
  refine de_call (pe_callB (call_max2 hc) hg hm (by decide +kernel) h (by decide) (by decide) he hpl) ?_
  intro F H vs xs z Q g rv ⟨i, j, e, ez⟩ hy
  subst e ez
  exact ⟨i, j, rdv2 rv, hy.1 _ (.int _)⟩
theorem de_min2 (hc : X.calm = true) (hg : Gl X "min") (hm : X.mg "min" = none) (h : DA E X [a, b] ha) (he : starEach [a, b] X.env = (false, eval a X.env) :: starEach [b] X.env := by rfl) (hpl : (backTo pos (starEach [b] X.env)).any (·.1) = false := by rfl) :
    DE E X (.Call (.Name "min" p) [a, b] [] pos) (dB bMin2 ha) := by
  refine de_call (pe_callB (call_min2 hc) hg hm (by decide +kernel) h (by decide) (by decide) he hpl) ?_
  intro F H vs xs z Q g rv ⟨i, j, e, ez⟩ hy
  subst e ez
  exact ⟨i, j, rdv2 rv, hy.1 _ (.int _)⟩
def bDivmod : List PyData → PyData → Prop := fun as z => ∃ i j : Int, as = [.int i, .int j] ∧ CDiv i j ∧ z = .tuple [.int (i / j), .int (i % j)]
theorem de_divmod (hg : Gl X "divmod") (hm : X.mg "divmod" = none) (h : DA E X [a, b] ha) (he : starEach [a, b] X.env = (false, eval a X.env) :: starEach [b] X.env := by rfl) (hpl : (backTo pos (starEach [b] X.env)).any (·.1) = false := by rfl) :
    DE E X (.Call (.Name "divmod" p) [a, b] [] pos) (dB bDivmod ha) := by
  refine de_call (pe_callB call_divmod hg hm (by decide +kernel) h (by decide) (by decide) he hpl) ?_
  intro F H vs xs z Q g rv ⟨i, j, e, hd, ez⟩ hy
  subst e ez
  exact ⟨i, j, rdv2 rv, hd, fun q hq => hy.2 q _ _ hq (.tup upd_same (.cons (.int _) (.cons (.int _) .nil)))⟩

/-! ### isinstance against a built-in class -/
def tyOf : PyData → String
  | .none => "NoneType"
  | .bool _ => "bool"
  | .int _ => "int"
  | .str _ => "str"
  | .list _ => "list"
  | .tuple _ => "tuple"
  | .dict _ => "dict"
/-- a locked dict whose keys are tuples -/
def LkT (H : Hp) (v : V) (x : PyData) : Prop := ∃ a o kvs, v = .ref a ∧ H a = some (.frz o (.dT kvs)) ∧ tyOf x = "dict"
theorem tyx_of {v : V} {x : PyData} (g : Sub F H) (h : Rdv K F H v x) (nf : fakD x = false) : TyX K H v (.type (tyOf x)) ∨ LkT H v x := by
  rcases h with h | ⟨p, rfl, z⟩
  · cases h with
    | non => exact .inl (.base .non)
    | bl b => exact .inl (.base (.bl b))
    | int i => exact .inl (.base (.int i))
    | str x => exact .inl (.base (.str x))
    | lst a b =>
      rcases g.seq a with (q | ⟨o, q⟩) | ⟨o, its, n, q, c, _⟩
      · exact .inl (.base (.lst q))
      · exact .inl (.base (.frz q))
      · exact .inl (.kList q c)
    | tup a b =>
      rcases g.tup (SqT.of a) with (q | ⟨o, q⟩) | ⟨o, its, n, q, c, _⟩
      · exact .inl (.base (.tup q))
      · exact .inl (.fTuple q)
      · exact .inl (.kTuple q c)
    | dik a b =>
      rcases g _ _ a with q | ⟨_, w, q⟩
      · exact .inl (.base (.dK q))
      · exact .inl (.fDict q)
    | dit a b =>
      rcases g _ _ a with q | ⟨_, w, q⟩
      · exact .inl (.base (.dT q))
      · exact .inr ⟨_, w, _, rfl, q, rfl⟩
    | fn a => cases nf
  · cases x with
    | list xs => obtain ⟨vs, a, b, c⟩ := z; exact .inl (.base (.lst b))
    | dict ds =>
      obtain ⟨a, ⟨kvs, b, c⟩ | ⟨kvs, b, c⟩⟩ := z
      · exact .inl (.base (.dK b))
      · exact .inl (.base (.dT b))
    | none => exact z.elim
    | bool _ => exact z.elim
    | int _ => exact z.elim
    | str _ => exact z.elim
    | tuple _ => exact z.elim
theorem call_isiLk : CallR X (.builtin "isinstance") (fun xs H Q => ∃ (x : V) (T : String) (d : PyData) (b : Bool), xs = [x, .ty T] ∧ LkT H x d ∧ kitB "dict" T = some b ∧ Q (.bl b) H) := by
  intro pins s σ H xs us Q I rv h
  obtain ⟨x, T, d, b, rfl, ⟨a, o, kvs, rfl, hH, _⟩, e, q⟩ := h
  obtain ⟨_, _, _, xs, _, oo, es, ep, h1, h2, _⟩ := (show ObjOk X.prog X.w H s.heap a (.frz o (.dT kvs)) from I.hok a _ hH)
  cases rv with
  | cons r1 t =>
    cases t with
    | cons r2 t =>
      cases t
      cases r1
      cases r2
      have k := kit_ty (K := X.K) e
      exact PySem.W.kia_one PySem.W.kitx_dict I.kIn ⟨oo, h1, h2.1⟩ k (fun z => nomatch z) fun tk => ⟨.bl b, H, I.tok tk, rfl, q⟩
def dIsi (f : PyData → Bool) (fa : DT) (r : DEnv) (P : Vl → DEnv → Prop) : Prop := fa r fun s r1 => ∃ x, rd r1 s = some x ∧ fakD x = false ∧ P (.d (.bool (f x))) r1
theorem de_isi {T : String} {f : PyData → Bool} {x : Str} {p2 : Pos} (hT : ∀ d, kitB (tyOf d) T = some (f d)) (hg : Gl X "isinstance") (hm : X.mg "isinstance" = none) (h : DE E X e fa) (hx : PE X (.Name x p2) (tC (.ty T)))
    (he : starEach [e, .Name x p2] X.env = (false, eval e X.env) :: starEach [.Name x p2] X.env := by rfl) (he2 : starEach [.Name x p2] X.env = (false, eval (.Name x p2) X.env) :: starEach [] X.env := by rfl) (hpl : (backTo pos (starEach [.Name x p2] X.env)).any (·.1) = false := by rfl) :
    DE E X (.Call (.Name "isinstance" p) [e, .Name x p2] [] pos) (dIsi f fa) := by
  refine wkE (pe_callB (callR_or call_isi call_isiLk) hg hm (by decide +kernel) (pa_cons h (pa_cons hx pa_nil he2) he) (by decide) (by decide) he hpl) fun st H Q ⟨F, r, P, R, p, k⟩ => ?_
  refine ⟨F, r, _, R, p, fun s r1 v F1 H1 q1 A1 ok n => ?_⟩
  obtain ⟨d, e, nf, q⟩ := q1
  rcases tyx_of A1.rel.sub (A1.rel.read ok e) nf with t | t
  · exact .inl ⟨v, .ty T, _, _, f d, rfl, .ty T, t, kit_ty (hT d), k _ _ _ _ _ q A1 (.bl _) trivial⟩
  · exact .inr ⟨v, T, d, f d, rfl, t, by
      obtain ⟨_, _, _, _, _, z⟩ := t
      rw [← z]
      exact hT d, k _ _ _ _ _ q A1 (.bl _) trivial⟩
def isIntD : PyData → Bool
  | .int _ => true
  | .bool _ => true
  | _ => false
def isBoolD : PyData → Bool
  | .bool _ => true
  | _ => false
def isTupD : PyData → Bool
  | .tuple _ => true
  | _ => false
def isStrD : PyData → Bool
  | .str _ => true
  | _ => false
def isListD : PyData → Bool
  | .list _ => true
  | _ => false
def isDictD : PyData → Bool
  | .dict _ => true
  | _ => false
theorem kit_int : ∀ d : PyData, kitB (tyOf d) "int" = some (isIntD d)
  | .none => (show kitB "NoneType" "int" = some false by decide +kernel)
  | .bool _ => (show kitB "bool" "int" = some true by decide +kernel)
  | .int _ => (show kitB "int" "int" = some true by decide +kernel)
  | .str _ => (show kitB "str" "int" = some false by decide +kernel)
  | .list _ => (show kitB "list" "int" = some false by decide +kernel)
  | .tuple _ => (show kitB "tuple" "int" = some false by decide +kernel)
  | .dict _ => (show kitB "dict" "int" = some false by decide +kernel)
theorem kit_bool : ∀ d : PyData, kitB (tyOf d) "bool" = some (isBoolD d)
  | .none => (show kitB "NoneType" "bool" = some false by decide +kernel)
  | .bool _ => (show kitB "bool" "bool" = some true by decide +kernel)
  | .int _ => (show kitB "int" "bool" = some false by decide +kernel)
  | .str _ => (show kitB "str" "bool" = some false by decide +kernel)
  | .list _ => (show kitB "list" "bool" = some false by decide +kernel)
  | .tuple _ => (show kitB "tuple" "bool" = some false by decide +kernel)
  | .dict _ => (show kitB "dict" "bool" = some false by decide +kernel)
theorem kit_tup : ∀ d : PyData, kitB (tyOf d) "tuple" = some (isTupD d)
  | .none => (show kitB "NoneType" "tuple" = some false by decide +kernel)
  | .bool _ => (show kitB "bool" "tuple" = some false by decide +kernel)
  | .int _ => (show kitB "int" "tuple" = some false by decide +kernel)
  | .str _ => (show kitB "str" "tuple" = some false by decide +kernel)
  | .list _ => (show kitB "list" "tuple" = some false by decide +kernel)
  | .tuple _ => (show kitB "tuple" "tuple" = some true by decide +kernel)
  | .dict _ => (show kitB "dict" "tuple" = some false by decide +kernel)
theorem kit_str : ∀ d : PyData, kitB (tyOf d) "str" = some (isStrD d)
  | .none => (show kitB "NoneType" "str" = some false by decide +kernel)
  | .bool _ => (show kitB "bool" "str" = some false by decide +kernel)
  | .int _ => (show kitB "int" "str" = some false by decide +kernel)
  | .str _ => (show kitB "str" "str" = some true by decide +kernel)
  | .list _ => (show kitB "list" "str" = some false by decide +kernel)
  | .tuple _ => (show kitB "tuple" "str" = some false by decide +kernel)
  | .dict _ => (show kitB "dict" "str" = some false by decide +kernel)
theorem kit_list : ∀ d : PyData, kitB (tyOf d) "list" = some (isListD d)
  | .none => (show kitB "NoneType" "list" = some false by decide +kernel)
  | .bool _ => (show kitB "bool" "list" = some false by decide +kernel)
  | .int _ => (show kitB "int" "list" = some false by decide +kernel)
  | .str _ => (show kitB "str" "list" = some false by decide +kernel)
  | .list _ => (show kitB "list" "list" = some true by decide +kernel)
  | .tuple _ => (show kitB "tuple" "list" = some false by decide +kernel)
  | .dict _ => (show kitB "dict" "list" = some false by decide +kernel)
theorem kit_dict : ∀ d : PyData, kitB (tyOf d) "dict" = some (isDictD d)
  | .none => (show kitB "NoneType" "dict" = some false by decide +kernel)
  | .bool _ => (show kitB "bool" "dict" = some false by decide +kernel)
  | .int _ => (show kitB "int" "dict" = some false by decide +kernel)
  | .str _ => (show kitB "str" "dict" = some false by decide +kernel)
  | .list _ => (show kitB "list" "dict" = some false by decide +kernel)
  | .tuple _ => (show kitB "tuple" "dict" = some false by decide +kernel)
  | .dict _ => (show kitB "dict" "dict" = some true by decide +kernel)
/-- a built-in class by its name -/
theorem pe_bty {x : Str} {T : String} {p : Pos} (hg : Gl X x) (hm : X.mg x = none) (hv : bootBuiltins x = some (.type T)) (hn : x ≠ "__name__" := by decide) (hd : (x == ("__debug__" : Str)) = false := by decide) : PE X (.Name x p) (tC (.ty T)) :=
  pe_bltn hg hm hv rfl hn hd
end
end DL
set_option Elab.async false
set_option linter.all false
set_option autoImplicit false
set_option maxRecDepth 100000
set_option maxHeartbeats 4000000
/-! DLi: the data layer, part nine: repr, objects changed, sums of sequences, enumerate. -/
namespace DL
open PySem PySem.Spec PyProof.Rows L2

/-! ### repr -/
mutual
theorem noDic_has : ∀ d : PyData, noDic d = true → d.hasDict = false
  | .none, _ => rfl
  | .bool _, _ => rfl
  | .int _, _ => rfl
  | .str _, _ => rfl
  | .list xs, h => by
    unfold noDic at h
    unfold PyData.hasDict
    exact noDics_has xs h
  | .tuple xs, h => by
    unfold noDic at h
    unfold PyData.hasDict
    exact noDics_has xs h
  | .dict _, h => by unfold noDic at h; cases h
theorem noDics_has : ∀ xs : List PyData, noDics xs = true → PyData.hasDictAll xs = false
  | [], _ => rfl
  | x :: xs, h => by
    unfold noDics at h
    rw [Bool.and_eq_true] at h
    unfold PyData.hasDictAll
    rw [noDic_has x h.1, noDics_has xs h.2]
    rfl
end
/-- what repr asks of data -/
structure OkR (x : PyData) : Prop where
  nd : noDic x = true
  sh : x.showable = true
  dp : x.depth ≤ 64
  sz : x.shown.length ≤ sizeLine
section
variable {X : Cx} {E : Ent} {e a b c : Expr} {es : List Expr} {pos p apos cpos : Pos} {fa fb fc : DT} {ga : DTF} {ha : DTA} {K : PySem.W.Frag} {F H F' H' : Hp} {st : St} {r r' : DEnv}
theorem call_reprD (hg : X.A.guards = some []) (hu : X.A.units + 66 < cLine) : CallR X (.builtin "repr") (fun vs H Q => ∃ v d, vs = [v] ∧ Dp X.K H v d ∧ OkR d ∧ Q (.str d.shown) H) := by
  intro pins s σ H vs us Q I rv h
  obtain ⟨v, d, rfl, hd, ok, q⟩ := h
  cases rv with
  | cons r t =>
    cases t
    rename_i u
    obtain ⟨as, rr⟩ := Dp.reads I d v u hd r
    have fin : ∀ h' tk, (∀ b o, s.heap.get? b = some o → h'.get? b = some o) → ∀ t', EP X pins σ Q (.str d.shown t') { s with heap := h', toks := tk } := fun h' tk k t' => ⟨.str _, H, I.kept (t' := tk) k, ⟨_, rfl⟩, q⟩
    cases hd with
    | non =>
      cases r
      exact P.repr_of_none (fin s.heap _ (fun _ _ e => e) _)
    | bl b =>
      cases r
      exact P.repr_of_bool (fin s.heap _ (fun _ _ e => e) _)
    | int i =>
      obtain ⟨t, rfl⟩ := r
      have := ok.sh
      unfold PyData.showable at this
      exact P.repr_of_int (of_decide_eq_true this) (fin s.heap _ (fun _ _ e => e) _)
    | str x =>
      obtain ⟨t, rfl⟩ := r
      exact P.repr_of_str (fin s.heap _ (fun _ _ e => e) _) ok.sz
    | lst a b =>
      cases r
      have hdp := ok.dp
      exact repr_of_reads' (h₀ := s.heap) rr ok.sh (PyData.noDict_hsm (noDic_has _ ok.nd)) hg (by omega) (fun _ _ e => e) (fun h' u tk k => fin h' tk k u) ok.sz
    | tup a b =>
      cases r
      have hdp := ok.dp
      exact repr_of_reads' (h₀ := s.heap) rr ok.sh (PyData.noDict_hsm (noDic_has _ ok.nd)) hg (by omega) (fun _ _ e => e) (fun h' u tk k => fin h' tk k u) ok.sz
def bRepr : List PyData → PyData → Prop := fun as z => ∃ x, as = [x] ∧ OkR x ∧ z = .str x.shown
theorem de_repr (hgu : X.A.guards = some []) (hu : X.A.units + 66 < cLine) (hg : Gl X "repr") (hm : X.mg "repr" = none) (h : DA E X [e] ha) (he : starEach [e] X.env = (false, eval e X.env) :: starEach [] X.env := by rfl) (hpl : (backTo pos (starEach [] X.env)).any (·.1) = false := by rfl) :
    DE E X (.Call (.Name "repr" p) [e] [] pos) (dB bRepr ha) := by
  refine de_call (pe_callB (call_reprD hgu hu) hg hm (by decide +kernel) h (by decide) (by decide) he hpl) ?_
  intro F H vs xs z Q g rv ⟨x, e, ok, ez⟩ hy
  subst e ez
  cases rv with
  | cons rx t =>
    cases t
    exact ⟨_, x, rfl, rx.dp g ok.nd, ok, hy.1 _ (.str _)⟩

/-! ### objects that are changed -/
theorem Rel.wrt {i : Nat} {s : Sl} {q : Addr} {o : HO} {y : PyData} (R : Rel K E F H st r) (e : r[i]? = some (some s)) (m : Sl.mu s = true) (hq : st[i]? = some (some (V.ref q))) (ob : ObAt K F (upd H q o) q y) : Aft K E F H st r F (upd H q o) (setC r i y) := by
  obtain ⟨p', e1, z⟩ := R.mu_at e m
  rw [hq] at e1
  cases e1
  obtain ⟨⟨u, hu⟩, hf⟩ := z.some
  have L : Left K F H (some q) F (upd H q o) (some y) := by
    refine ⟨Same.refl _, fun a w ea => ?_, fun a w ea n => ?_, fun a w ea => ?_, fun a w _ n => .inl n, fun w ew => ?_⟩
    · have : a ≠ q := fun z => by rw [z, hf] at ea; cases ea
      rw [upd_ne this]
      exact R.sub a w ea
    · rw [upd_ne fun z => n (by rw [z])]
      exact ea
    · by_cases h : a = q
      · rw [h]
        exact ⟨o, upd_same⟩
      · rw [upd_ne h]
        exact ⟨w, ea⟩
    · cases ew
      exact ⟨y, rfl, ob⟩
  have := R.after (ss := [.v i]) L (fun w ew => by
    cases ew
    exact ⟨i, s, rfl, e, m, hq⟩) (fun z => nomatch z)
  exact this
/-- x.append(e), x the name in slot i -/
def sApp (i : Nat) (ga : DTF) (P : DEnds) (r : DEnv) : Prop := (∃ xs, slotD r i = some (.list xs)) ∧ ga r fun ys r1 => ∃ y xs t, ys = [y] ∧ r1[i]? = some (some t) ∧ Sl.mu t = true ∧ t.it = .list xs ∧ xs.length < sizeLine ∧ P.nx (setC r1 i (.list (xs ++ [y])))
theorem slot_read {i : Nat} {x : PyData} (R : Rel K E F H st r) (e : slotD r i = some x) : ∃ v, st[i]? = some (some v) ∧ Rdv K F H v x := by
  unfold slotD at e
  split at e
  · rename_i s q
    obtain ⟨v, e1, ok⟩ := R.var q
    refine ⟨v, e1, ?_⟩
    cases s with
    | d y => cases e; exact .inl ok
    | l y =>
      obtain ⟨p, e2, _, z⟩ := R.own i y q
      rw [e1] at e2
      cases e2
      cases e
      exact .inr ⟨p, rfl, z⟩
    | b y =>
      obtain ⟨p, e2, _, _, z⟩ := R.bor i y q
      rw [e1] at e2
      cases e2
      cases e
      exact .inr ⟨p, rfl, z⟩
  · cases e
theorem ob_list {q : Addr} {xs : List PyData} (z : ObAt K F H q (.list xs)) : ∃ vs, F q = none ∧ H q = some (.lst vs) ∧ Rps K F vs xs := z
theorem ds_app {i : Nat} (h : PS X (.Expr e pos) (tDrop (tBM X.K "list" rAppend (tVar i) (tDF X.K E ga)))) : DS E X (.Expr e pos) (sApp i ga) := by
  refine wkS h fun D st H ⟨F, r, P, R, p, k⟩ => ?_
  obtain ⟨⟨xs0, e0⟩, p⟩ := p
  obtain ⟨v, ev, rv⟩ := slot_read R e0
  obtain ⟨q, vs, ev2, hq, _⟩ := rv.seq R.sub
  subst ev2
  refine ⟨_, ev, .inl ⟨rfl, _, hq⟩, F, r, _, R, p, ?_⟩
  · rintro ys r1 ws F1 H1 ⟨y, xs, t, ey, e1, m1, it, hl, q1⟩ A1 ok
    subst ey
    cases ok with
    | cons ok nn =>
      cases nn
      obtain ⟨q', e2, z⟩ := A1.rel.mu_at e1 m1
      rw [ev] at e2
      cases e2
      rw [it] at z
      obtain ⟨us, f1, h1, rs⟩ := ob_list z
      refine ⟨q, us, _, rfl, rfl, h1, by rw [rps_len rs]; exact hl, ?_⟩
      have B := A1.rel.wrt (o := .lst (us ++ [_])) e1 m1 ev (y := .list (xs ++ [y])) ⟨_, f1, upd_same, rps_app rs (.cons ok .nil)⟩
      exact k.nx _ _ _ _ q1 B.rel (A1.stp.gf.trans B.stp.gf)
/-- x[k] = e, x the name in slot i, a list -/
def sPut (i : Nat) (fe fk : DT) (P : DEnds) (r : DEnv) : Prop := dFz fe r fun s r1 => ∃ y, s = .d y ∧ fk r1 fun u r2 => ∃ k j xs t, u = .d (.int k) ∧ r2[i]? = some (some t) ∧ Sl.mu t = true ∧ t.it = .list xs ∧ ixN xs.length k = some j ∧ P.nx (setC r2 i (.list (xs.set j y)))
/-- .. where a list stands there -/
def sPutS (i : Nat) (fa fk : DT) (P : DEnds) (r : DEnv) : Prop := (∃ xs, slotD r i = some (.list xs)) ∧ sPut i fa fk P r
theorem ds_put {i : Nat} {tg : Expr} {fk : DT} (h : PS X (.Assign [tg] e pos) (tAsg (tD X.K E (dFz fa)) (gSub (tVar i) (tD X.K E fk) rSetL))) :
    DS E X (.Assign [tg] e pos) (sPutS i fa fk) := by
  refine wkS h fun D st H ⟨F, r, P, R, p, k⟩ => ?_
  obtain ⟨⟨xs0, e0⟩, p⟩ := p
  obtain ⟨v, ev, rv⟩ := slot_read R e0
  obtain ⟨q, vs, ev2, hq, _⟩ := rv.seq R.sub
  subst ev2
  refine ⟨F, r, _, R, p, ?_⟩
  rintro s r1 w F1 H1 ⟨y, es, q1⟩ A1 ok n
  subst es
  refine ⟨_, ev, F1, r1, _, A1.rel, q1, ?_⟩
  rintro u r2 w2 F2 H2 ⟨kk, j, xs, t, eu, e1, m1, it, hj, q2⟩ A2 ok2 n2
  subst eu
  cases ok2
  obtain ⟨q', e2, z⟩ := A2.rel.mu_at e1 m1
  rw [ev] at e2
  cases e2
  rw [it] at z
  obtain ⟨us, f1, h1, rs⟩ := ob_list z
  refine ⟨q, us, kk, j, rfl, rfl, h1, by rw [rps_len rs]; exact hj, ?_⟩
  have B := A2.rel.wrt (o := .lst (us.set j w)) e1 m1 ev (y := .list (xs.set j y)) ⟨_, f1, upd_same, rps_set (rpM A2.stp.gf ok) j rs⟩
  exact k.nx _ _ _ _ q2 B.rel ((A1.stp.gf.trans A2.stp.gf).trans B.stp.gf)
/-- x op= e -/
def sAug (i : Nat) (B : PyData → PyData → PyData → Prop) (fe : DT) (P : DEnds) (r : DEnv) : Prop := ∃ x, r[i]? = some (some (Sl.d x)) ∧ fe r fun s r1 => ∃ y z, rd r1 s = some y ∧ B x y z ∧ P.nx (r1.set i (some (.d z)))
theorem ds_aug {i : Nat} {tg : Expr} {op : Operator} {ti : TIp} {B : PyData → PyData → PyData → Prop} (h : PS X (.AugAssign tg op e pos) (tAug i (tD X.K E fa) ti)) (hB : OpB X.K (fun x y H Q => ti x y H Q) B) : DS E X (.AugAssign tg op e pos) (sAug i B fa) := by
  refine wkS h fun D st H ⟨F, r, P, R, p, k⟩ => ?_
  obtain ⟨x, e0, p⟩ := p
  obtain ⟨v, ev, rv⟩ := R.dat i x e0
  refine ⟨v, ev, F, r, _, R, p, ?_⟩
  rintro s r1 w F1 H1 ⟨y, z, e1, hb, q1⟩ A1 ok n
  have fin : ∀ F2 H2 u, Rel X.K E F2 H2 st r1 → Same F F2 → Rp X.K F2 u z → D.nx (st.set i (some u)) H2 := fun F2 H2 u R2 g hu => k.nx _ _ _ _ q1 (R2.put (.inl ⟨z, rfl, hu⟩)) g
  refine hB F1 H1 v w x y z _ A1.rel.sub (.inl (rpM A1.stp.gf rv)) (A1.rel.read ok e1) hb ⟨fun u hu => fin F1 H1 u A1.rel A1.stp.gf hu, fun p o u n hu => ?_⟩
  have C := A1.rel.new (o := o) n
  exact fin _ _ u C.rel (A1.stp.gf.trans C.stp.gf) hu
end
end DL
set_option Elab.async false
set_option linter.all false
set_option autoImplicit false
set_option maxRecDepth 100000
set_option maxHeartbeats 4000000
/-! DLj: the data layer, part ten: enumerate over lists and tuples. -/
namespace PySem
open AutoSeq1 (wpAny_loadPart')
theorem dl_meets_enumT (l : Addr) (items : Array Value) (n : Nat) (dct : Option Addr) (sl : Array (Option Value)) :
    Meets (Builtin.«enumerate.__new__» ⟨[.type "enumerate", .ref l], []⟩) (fun _ R s => s.heap.get? l = some { cls := .type "tuple", dict := dct, data := .seq items n, slots := sl } ∧
      R (.ok (.ret (.ref (s.heap.push { cls := .type "tuple_iterator", data := .fields #[.ref l, .int 0 0] }).objs.size)))
        { s with heap := (s.heap.push { cls := .type "tuple_iterator", data := .fields #[.ref l, .int 0 0] }).push { cls := .type "enumerate", data := .fields #[.none, .bool false, .ref s.heap.objs.size, rawInt 0, .none, .none] } }) :=
  .of_wp fun prog w A R s h => by
    obtain ⟨hp, g, d, tk, os⟩ := s
    obtain ⟨hl, h⟩ := h
    have hsub := sub_enumerate
    have hT : Heap.IsTuple (Shared.heap ⟨hp, g, d, tk, os⟩) l items := ⟨_, hl, rfl, n, rfl⟩
    wp_walk using wpAny_loadPart' hl
    refine wpAny_stack_any fun st => wpAny_pure ?_
    split
    · rename_i c _ _ _ _ _
      cases (c == Value.type "enumerate") <;> (wp_walk using wpAny_loadPart' hl, wpAny_pyIter_tuple hT; exact ⟨_, rfl, h⟩)
    · wp_walk using wpAny_loadPart' hl, wpAny_pyIter_tuple hT
      exact ⟨_, rfl, h⟩
theorem dl_call_enumT {prog : Program} {w : World} {A : Around} {E : Value → Shared → Prop} {s : Shared} {l : Addr} {items : Array Value} {Q : Value → Shared → Prop} (hL : s.heap.IsTuple l items)
    (h : ∀ h', IsEnum h' (s.heap.objs.size + 1) s.heap.objs.size 0 .none → h'.IsTupleIter s.heap.objs.size l 0 → (∀ b o, s.heap.get? b = some o → h'.get? b = some o) → Q (.ref (s.heap.objs.size + 1)) { s with heap := h' }) :
    wpAny (model prog w) A (call (.type "enumerate") [.ref l]) Q E s := by
  obtain ⟨⟨c, dct, dt, sl⟩, hl, hc, n, hd⟩ := hL
  have hc : c = .type "tuple" := hc
  have hd : dt = .seq items n := hd
  subst hc
  subst hd
  refine callType_new F.called_enumerate (by decide) (F.typeCall_enumerate_1 _) (F.newCall_enumerate_1 _) (fun obj => F.args_object_init_2 obj _) F.entry_enumerate_new (dl_meets_enumT l items n dct sl) ⟨hl, ?_⟩
  have hz : (s.heap.push { cls := .type "tuple_iterator", data := .fields #[.ref l, .int 0 0] }).objs.size = s.heap.objs.size + 1 := Heap.size_push ..
  show _ ∧ _
  rw [hz]
  have he : IsEnum ((s.heap.push { cls := .type "tuple_iterator", data := .fields #[.ref l, .int 0 0] }).push
      { cls := .type "enumerate", data := .fields #[.none, .bool false, .ref s.heap.objs.size, rawInt 0, .none, .none] }) (s.heap.objs.size + 1) s.heap.objs.size 0 .none := by
    have q := Heap.get?_push_size (s.heap.push { cls := .type "tuple_iterator", data := .fields #[.ref l, .int 0 0] })
      (o := { cls := .type "enumerate", data := .fields #[.none, .bool false, .ref s.heap.objs.size, rawInt 0, .none, .none] }) rfl
    rw [hz] at q
    exact q
  exact ⟨⟨_, he, rfl⟩, h _ he ⟨_, Heap.get?_push_of_some _ (Heap.get?_push_size _ rfl), rfl, rfl⟩ fun b o x => Heap.get?_push_of_some _ (Heap.get?_push_of_some _ x)⟩
end PySem
namespace DL
open PySem PySem.Spec PyProof.Rows L2
def enumD (xs : List PyData) : List PyData := xs.mapIdx fun i x => .tuple [.int (i : Nat), x]
/-- the tuple at a, each item in a new pair -/
def IteT (K : PySem.W.Frag) (a : Addr) : It :=
  ⟨fun i H => ∃ (xs : List V) (x : V), SqT K H a xs ∧ xs[i]? = some x, fun i H v H' => ∃ T x, v = .ref T ∧ H T = none ∧ H' = upd H T (.tup [.int (i : Nat), x]) ∧ ∀ xs, SqT K H a xs → xs[i]? = some x, fun i H => ∃ xs : List V, SqT K H a xs ∧ xs.length = i⟩
theorem turn_enumT {P : Program} {w : World} {K : PySem.W.Frag} {elts : List Expr} {kk : Nat} {tpos : Pos} (a e it : Addr) :
    Turn P w K (.Tuple elts kk tpos) (IteT K a) [e, it] e (fun i h => (∃ old, IsEnum h e it ((i : Nat) : Int) old) ∧ h.IsTupleIter it a i ∧ e ≠ it) where
  mem := by simp
  obj := by
    intro i h st b hb
    obtain ⟨⟨old, he⟩, ⟨o, ho, hc, hd⟩, _⟩ := st
    rcases List.mem_cons.mp hb with z | z
    · rw [z]; exact ⟨_, he, fun v q => nomatch q⟩
    · rw [List.mem_singleton.mp z]; exact ⟨o, ho, fun v q => by rw [hd] at q; cases q⟩
  keep := by
    intro i h h' ⟨⟨old, he⟩, hi, hne⟩ k
    exact ⟨⟨old, k e (by simp) _ he⟩, hi.at fun o q => k it (by simp) o q, hne⟩
  item := by
    intro X hP hw hK hc i pins s σ H E I hf st hg
    subst hP hw hK
    obtain ⟨⟨old, he⟩, hit, hne⟩ := st
    obtain ⟨xs, x, hq, hx⟩ := hg
    obtain ⟨its, rv, pt, hz⟩ := I.tuple hq
    have pt' : s.heap.IsTuple a its.toArray := pt
    obtain ⟨u, hu, ru⟩ := rv.get hx
    have hel : e < s.heap.objs.size := Heap.lt_size he
    have hil : it < s.heap.objs.size := by obtain ⟨_, q, _⟩ := hit; exact Heap.lt_size q
    have nai : a ≠ it := fun z => by
      obtain ⟨o, e1, c1, _⟩ := pt'
      obtain ⟨o', e2, c2, _⟩ := hit
      rw [z, e2] at e1
      cases e1
      rw [c1] at c2
      exact absurd (Value.type.inj c2) (by decide)
    have nae : e ≠ a := fun z => by
      obtain ⟨o, e1, c1, _⟩ := pt'
      rw [← z, he] at e1
      cases e1
      exact absurd (Value.type.inj c1) (by decide)
    have hlt : i < its.toArray.size := by
      rw [List.size_toArray]
      exact (List.getElem?_eq_some_iff.mp hu).1
    refine wpAny_pyNext_enum_itemC (Draws.tuple (A := X.A.in1) (I.ok.hd hc) it a nai its.toArray) he ⟨hit, pt'⟩ hlt hne (by simp [hne, nae]) fun y h' tk hy ho hst hT hsz hk => ?_
    have ey : y = u := by
      rw [List.getElem?_toArray, hu] at hy
      exact (Option.some.inj hy).symm
    subst ey
    refine ⟨_, rfl, wpAny_letOwnedTupleGo_enum (s := { s with heap := h', toks := tk + 1 }) ho fun h'' he' sb => ?_⟩
    have hT2 : h''.get? s.heap.objs.size = some { cls := .type "tuple", data := .seq #[.int i tk, y] } := (sb.2 _ (Nat.ne_of_gt hel)).trans hT
    have new : ObjOk X.prog X.w (upd H s.heap.objs.size (.tup [.int (i : Nat), x])) h'' s.heap.objs.size (.tup [.int (i : Nat), x]) :=
      ⟨by show 2 ≤ sizeLine; decide, [.int i tk, y], .cons ⟨_, rfl⟩ (.cons ru .nil), ⟨_, hT2, rfl, _, rfl⟩⟩
    have I1 : Inv X pins σ (upd H s.heap.objs.size (.tup [.int (i : Nat), x])) { s with heap := h'', toks := tk + 1 } :=
      I.turnedNew (ch := [e, it]) (fun b ob hb q => (sb.2 b (fun z => hb (by simp [z]))).trans (hk b ob (fun z => hb (by simp [z])) (fun z => hb (by simp [z])) q)) hf (Nat.le_refl _) new
    refine ⟨.ref s.heap.objs.size, _, I1, rfl, ⟨_, x, rfl, I.hok.fresh (Nat.le_refl _), rfl, fun ys hy => by rw [I.tuple_inj hy hq]; exact hx⟩, ⟨⟨y, ?_⟩, hst.1.at fun o q => (sb.2 it (Ne.symm hne)).trans q, hne⟩, fun b hb => ?_⟩
    · have e1 : ((i + 1 : Nat) : Int) = (i : Int) + 1 := by omega
      rw [e1]
      exact he'
    · have hb' : b < s.heap.objs.size := by
        rcases List.mem_cons.mp hb with z | z
        · rw [z]; exact hel
        · rw [List.mem_singleton.mp z]; exact hil
      rw [upd_ne (Nat.ne_of_lt hb')]
      exact (hf b hb).1
  done := by
    intro X hP hw hK hc i pins s σ H E I hf st hg
    subst hP hw hK
    obtain ⟨⟨old, he⟩, hit, hne⟩ := st
    obtain ⟨xs, hq, hx⟩ := hg
    obtain ⟨its, rv, pt, hz⟩ := I.tuple hq
    have pt' : s.heap.IsTuple a its.toArray := pt
    obtain ⟨f0, f1, f2, f3, f4, f5⟩ := hf it (by simp)
    have nai : a ≠ it := fun z => by
      obtain ⟨o, e1, c1, _⟩ := pt'
      obtain ⟨o', e2, c2, _⟩ := hit
      rw [z, e2] at e1
      cases e1
      rw [c1] at c2
      exact absurd (Value.type.inj c2) (by decide)
    have en : its.toArray.size = i := by
      rw [List.size_toArray, ← rv.length]
      exact hx
    have D := Draws.tuple (prog := X.prog) (w := X.w) (A := X.A.in1) (I.ok.hd hc) it a nai its.toArray
    rw [en] at D
    exact wpAny_pyNext_enum_endD D he ⟨hit, pt'⟩ fun h' eb => ⟨rfl, I.turned (t' := s.toks) (fun b o hb q => eb b o hb q) f0 f1 f3 f4 f5⟩
  self := by
    intro A i s Q E ⟨⟨_, he⟩, _⟩ h
    exact wpAny_pyIter_enum he h
section
variable {X : Cx} {E : Ent} {e a b : Expr} {pos p tpos : Pos} {fa : DT} {ga : DTF} {K : PySem.W.Frag} {F H : Hp} {elts : List Expr} {kk : Nat}
def iEnumT (K : PySem.W.Frag) (ta : TA) : TI := fun σ H R => ta σ H fun vs H1 => ∃ a xs, vs = [.ref a] ∧ SqT K H1 a xs ∧ R (IteT K a) H1
theorem pi_enumT {ta : TA} (hg : Gl X "enumerate") (hm : X.mg "enumerate" = none) (ha : PA X [e] ta) (hs : starEach [e] X.env = [(false, eval e X.env)] := by rfl) :
    PI X (.Tuple elts kk tpos) (.Call (.Name "enumerate" p) [e] [] pos) (iEnumT X.K ta) := by
  constructor
  intro pins s σ H R I h
  refine Call_ (ld_blt I hg hm boot_enumerate (PyProof.Rows.callWith_type1 (thn (ha.run pos pins s σ H _ I h) fun us s1 ⟨vs, H1, I1, r1, q1⟩ => ?_) hs rfl))
  obtain ⟨a, xs, ex, hq, q⟩ := q1
  subst ex
  cases r1 with
  | cons r rr =>
    cases rr
    cases r
    obtain ⟨its, rv, p', hz⟩ := I1.tuple hq
    refine dl_call_enumT (show s1.heap.IsTuple a its.toArray from p') fun h' he hit hk => wpAny_pyIter_enum he ?_
    have I2 : Inv X pins σ H1 { s1 with heap := h' } := I1.kept (t' := s1.toks) hk
    refine ⟨s1.heap.objs.size + 1, [s1.heap.objs.size + 1, s1.heap.objs.size], _, _, H1, rfl, I2, turn_enumT a (s1.heap.objs.size + 1) s1.heap.objs.size, ⟨⟨.none, he⟩, hit, Nat.succ_ne_self _⟩, fun b hb => ?_, q⟩
    have hle : s1.heap.objs.size ≤ b := by
      rcases List.mem_cons.mp hb with z | z
      · rw [z]; exact Nat.le_add_right _ _
      · rw [List.mem_singleton.mp z]; exact Nat.le_refl _
    exact I1.fpOk hle (I1.hok.fresh hle)
theorem walk_enumT {a : Addr} {xs : List V} : Walk (IteT K a) xs.length (fun H => SqT K H a xs) (YPair (fun i => some (.int (i : Nat))) (fun i => xs[i]?)) := by
  refine ⟨fun i _ hi q => ⟨xs, xs[i], q, by simp [hi]⟩, fun _ q => ⟨xs, q, rfl⟩, fun i H v H' _ q y => ?_⟩
  obtain ⟨T, x, h1, h2, h3, h4⟩ := y
  exact ⟨T, .int (i : Nat), x, h1, h2, h3, rfl, h4 xs q⟩
theorem dwalk_pair {J : It} {n : Nat} {G : Hp → Prop} {fs gs : Nat → Option V} {xs : List PyData} (w : Walk J n G (YPair fs gs)) (hn : xs.length = n) (hG : ∀ F1 H, Same F F1 → Sub F1 H → G H)
    (hx : ∀ i u v, i < n → fs i = some u → gs i = some v → ∃ x y, xs[i]? = some (.tuple [x, y]) ∧ Rp K F u x ∧ Rp K F v y) : DWalk K F J xs := by
  refine ⟨G, _, by rw [hn]; exact w, hG, fun i F1 H v H' hi s g y => ?_⟩
  obtain ⟨T, u, v', e1, e2, e3, e4, e5⟩ := y
  obtain ⟨x, y, q1, q2, q3⟩ := hx i u v' (hn ▸ hi) e4 e5
  exact ⟨_, q1, .inr ⟨T, _, _, e1, e2, e3, rfl, .cons q2 (.cons q3 .nil)⟩⟩
theorem enumD_len (xs : List PyData) : (enumD xs).length = xs.length := by unfold enumD; simp
theorem enumD_at {xs : List PyData} {i : Nat} {x : PyData} (h : xs[i]? = some x) : (enumD xs)[i]? = some (.tuple [.int (i : Nat), x]) := by
  unfold enumD
  simp [h]
def iEnumL (fa : DTF) (r : DEnv) (P : List PyData → DEnv → Prop) : Prop := fa r fun ys r1 => ∃ xs, ys = [.list xs] ∧ P (enumD xs) r1
def iEnumTu (fa : DTF) (r : DEnv) (P : List PyData → DEnv → Prop) : Prop := fa r fun ys r1 => ∃ xs, ys = [.tuple xs] ∧ P (enumD xs) r1
theorem di_enumL (hg : Gl X "enumerate") (hm : X.mg "enumerate" = none) (h : DF E X [e] ga) (hs : starEach [e] X.env = [(false, eval e X.env)] := by rfl) : PI X (.Tuple elts kk tpos) (.Call (.Name "enumerate" p) [e] [] pos) (tDI X.K E (iEnumL ga)) :=
  wkI (pi_enum hg hm h hs) fun st H R ⟨F, r, P, R0, p, k⟩ => ⟨F, r, _, R0, p, fun ys r1 vs F1 H1 q1 A1 ok => by
    obtain ⟨xs, e, q⟩ := q1
    subst e
    cases ok with
    | cons h0 t =>
      cases t
      cases h0 with
      | lst h1 h2 =>
        refine ⟨_, _, rfl, A1.rel.sub.seq h1, k _ _ _ _ _ q A1 (dwalk_pair walk_enum (by rw [enumD_len, rps_len h2]) (fun F2 H s g => g.seq (s.seq h1)) fun i u v hi e1 e2 => ?_)⟩
        cases e1
        obtain ⟨x, e3, e4⟩ := rps_at' h2 e2
        exact ⟨_, _, enumD_at e3, .int _, e4⟩⟩
theorem di_enumT (hg : Gl X "enumerate") (hm : X.mg "enumerate" = none) (h : DF E X [e] ga) (hs : starEach [e] X.env = [(false, eval e X.env)] := by rfl) : PI X (.Tuple elts kk tpos) (.Call (.Name "enumerate" p) [e] [] pos) (tDI X.K E (iEnumTu ga)) :=
  wkI (pi_enumT hg hm h hs) fun st H R ⟨F, r, P, R0, p, k⟩ => ⟨F, r, _, R0, p, fun ys r1 vs F1 H1 q1 A1 ok => by
    obtain ⟨xs, e, q⟩ := q1
    subst e
    cases ok with
    | cons h0 t =>
      cases t
      cases h0 with
      | tup h1 h2 =>
        refine ⟨_, _, rfl, A1.rel.sub.tup (SqT.of h1), k _ _ _ _ _ q A1 (dwalk_pair walk_enumT (by rw [enumD_len, rps_len h2]) (fun F2 H s g => g.tup (sameT s (SqT.of h1))) fun i u v hi e1 e2 => ?_)⟩
        cases e1
        obtain ⟨x, e3, e4⟩ := rps_at' h2 e2
        exact ⟨_, _, enumD_at e3, .int _, e4⟩⟩
end
end DL
set_option Elab.async false
set_option linter.all false
set_option autoImplicit false
set_option maxRecDepth 100000
set_option maxHeartbeats 4000000
/-! DLk: the data layer, part eleven: sums of lists and tuples, several names at once. -/
namespace DL
open PySem PySem.Spec PyProof.Rows L2
section
variable {X : Cx} {E : Ent} {e a b : Expr} {es : List Expr} {pos p tpos : Pos} {fa fb : DT} {ga : DTF} {K : PySem.W.Frag} {F H F' H' : Hp} {st : St} {r r' : DEnv}
/-! ### + of lists and of tuples -/
def rCatR (K : PySem.W.Frag) : R2 := fun x y H Q => ∃ l b xs zs, x = .ref l ∧ y = .ref b ∧ SqL K H l xs ∧ SqL K H b zs ∧ xs.length + zs.length ≤ sizeLine ∧ ∀ p, H p = none → Q (.ref p) (upd H p (.lst (xs ++ zs)))
theorem op_catR : OpR X (binaryOp .Add) (rCatR X.K) := by
  intro pins s σ H x y v u Q I rx ry h
  obtain ⟨l, b, xs, zs, rfl, rfl, hH, hB, hz, q⟩ := h
  cases rx
  cases ry
  obtain ⟨its, r, p1, _⟩ := I.list hH
  obtain ⟨its2, r2, p2, _⟩ := I.list hB
  have l1 := r.length
  have l2 := r2.length
  obtain ⟨⟨cls, dd, data, sl⟩, ho, hc, n, hd⟩ := p1.isList
  obtain ⟨⟨cls2, dd2, data2, sl2⟩, ho2, hc2, n2, hd2⟩ := p2.isList
  have hc : cls = .type "list" := hc
  have hd : data = .seq its.toArray n := hd
  have hc2 : cls2 = .type "list" := hc2
  have hd2 : data2 = .seq its2.toArray n2 := hd2
  subst hc hd hc2 hd2
  refine concat_meets ⟨_, ho, rfl⟩ ⟨_, ho2, rfl⟩ noFill_list_add seq_list_add PySem.F.slot_list_add PySem.F.entry_list_add (PySem.F.args_list_add_2 _ _) (list_addW l b its.toArray its2.toArray n n2 dd dd2 sl sl2 (by rw [List.size_toArray, List.size_toArray]; omega)) ⟨ho, ho2, ?_⟩
  have ea : its.toArray ++ its2.toArray = (its ++ its2).toArray := by simp
  rw [ea]
  exact ⟨.ref _, _, I.lnew (t' := s.toks) (r.append r2) (by rw [List.length_append]; omega), rfl, q _ I.fresh⟩
def bCatL : PyData → PyData → List PyData → Prop := fun x y zs => ∃ xs ys, x = .list xs ∧ y = .list ys ∧ xs.length + ys.length ≤ sizeLine ∧ zs = xs ++ ys
theorem opB_catL : OpBL K (rCatR K) bCatL := by
  intro F H v w x y z Q g h1 h2 ⟨xs, ys, e1, e2, hl, e3⟩ hy
  subst e1 e2 e3
  obtain ⟨p, vs, ev, hp, rp⟩ := h1.seq g
  obtain ⟨q, ws, ew, hq, rq⟩ := h2.seq g
  subst ev ew
  exact ⟨p, q, vs, ws, rfl, rfl, hp, hq, by rw [rps_len rp, rps_len rq]; exact hl, fun l hl => hy l _ hl (rps_app rp rq)⟩
theorem de_catL (ha : DE E X a fa) (hb : DE E X b fb) : DE E X (.BinOp a .Add b pos) (dOpL bCatL fa fb) := de_opL op_catR opB_catL ha hb
def bCatT : PyData → PyData → PyData → Prop := fun x y z => ∃ xs ys, x = .tuple xs ∧ y = .tuple ys ∧ xs.length + ys.length ≤ sizeLine ∧ z = .tuple (xs ++ ys)
theorem rps_nil {vs : List V} {xs : List PyData} (h : Rps K F vs xs) : vs = [] ↔ xs = [] := by
  cases h with
  | nil => exact ⟨fun _ => rfl, fun _ => rfl⟩
  | cons a t => exact Iff.intro (fun h => nomatch h) (fun h => nomatch h)
theorem Rdv.tupF {v : V} {xs : List PyData} (h : Rdv K F H v (.tuple xs)) : ∃ p vs, v = .ref p ∧ F p = some (.tup vs) ∧ Rps K F vs xs := by
  rcases h with h | ⟨p, rfl, z⟩
  · cases h with
    | tup a b => exact ⟨_, _, rfl, a, b⟩
  · exact z.elim
theorem opB_catT : OpB K (rCatA K) bCatT := by
  intro F H v w x y z Q g h1 h2 ⟨xs, ys, e1, e2, hl, e3⟩ hy
  subst e1 e2 e3
  obtain ⟨p, vs, ev, hp, rp⟩ := h1.tupF
  obtain ⟨q, ws, ew, hq, rq⟩ := h2.tupF
  subst ev ew
  refine ⟨p, q, vs, ws, rfl, rfl, g.tup (SqT.of hp), g.tup (SqT.of hq), by rw [rps_len rp, rps_len rq]; exact hl, fun e => ?_, fun e1 e2 => ?_, fun e1 e2 l hn => ?_⟩
  · have := (rps_nil rp).mp e
    subst this
    exact hy.1 _ (.tup hq rq)
  · have := (rps_nil rq).mp e2
    subst this
    rw [List.append_nil] at hy
    exact hy.1 _ (.tup hp rp)
  · exact hy.2 l _ _ hn (.tup upd_same (rpsM (same_upd (g.free hn)) (rps_app rp rq)))
theorem de_catT (ha : DE E X a fa) (hb : DE E X b fb) : DE E X (.BinOp a .Add b pos) (dOp bCatT fa fb) := de_op op_catA opB_catT ha hb
/-- + whatever its operands are: ints, texts, tuples -/
def bStr : PyData → PyData → PyData → Prop := fun x y z => ∃ s t : Str, x = .str s ∧ y = .str t ∧ s.length + t.length ≤ sizeLine ∧ z = .str (s ++ t)

/-! ### several names at once -/
def NDis : List V → List Vl → Prop
  | v :: vs, s :: ss => (∀ (j : Nat) (x : PyData) (y : PyData), s = .n x → ss[j]? = some (Vl.n y) → vs[j]? ≠ some v) ∧ NDis vs ss
  | _, _ => True
def tDM (K : PySem.W.Frag) (E : Ent) (f : DTA) : TA := fun st H Q => ∃ F r P, Rel K E F H st r ∧ f r P ∧ ∀ ss r' vs F' H', P ss r' → Aft K E F H st r F' H' r' → Paired (VlOk K F' H' st r') vs ss → Paired (New H) vs ss → NDis vs ss → Q vs H'
def mCons (fa : DT) (ha : DTA) (r : DEnv) (P : List Vl → DEnv → Prop) : Prop := fa r fun s r1 => ha r1 fun ss r2 => P (s :: ss) r2
theorem paired_at {α β : Type} {R : α → β → Prop} {xs : List α} {ys : List β} (h : Paired R xs ys) : ∀ {i : Nat} {x : α} {y : β}, xs[i]? = some x → ys[i]? = some y → R x y := by
  induction h with
  | nil => intro i x y e; simp at e
  | cons a _ ih =>
    intro i x y e e'
    cases i with
    | zero =>
      simp only [List.getElem?_cons_zero, Option.some.injEq] at e e'
      exact e ▸ e' ▸ a
    | succ i =>
      simp only [List.getElem?_cons_succ] at e e'
      exact ih e e'
theorem dm_nil : PA X [] (tDM X.K E aNil) := wkA pa_nil fun st H Q ⟨F, r, P, R, p, k⟩ => k _ _ _ _ _ p (.refl R) .nil .nil trivial
theorem dm_cons {ha : DTA} (h : DE E X e fa) (t : PA X es (tDM X.K E ha)) (hs : starEach (e :: es) X.env = (false, eval e X.env) :: starEach es X.env := by rfl) : PA X (e :: es) (tDM X.K E (mCons fa ha)) := by
  refine wkA (pa_cons h t hs) fun st H Q ⟨F, r, P, R, p, k⟩ => ⟨F, r, _, R, p, fun s r1 v F1 H1 q1 A1 ok1 n1 => ?_⟩
  refine ⟨F1, r1, _, A1.rel, q1, fun ss r2 vs F2 H2 q2 A2 ok2 n2 nd => k _ _ _ _ _ q2 (A1.trans A2) (.cons (ok1.aft A2) ok2) (.cons n1 (Paired.mapP n2 fun _ _ z => A1.newBack z)) ⟨fun j x y es ej ev => ?_, nd⟩⟩
  subst es
  obtain ⟨p', e1, ob, _⟩ := ok1
  subst e1
  obtain ⟨⟨u, hu⟩, _⟩ := ob.some
  have hn := paired_at n2 ev ej
  have := hn p' rfl
  rw [hu] at this
  cases this
def putAll (r : DEnv) : List Nat → List Vl → (DEnv → Prop) → Prop
  | [], [], Q => Q r
  | i :: is, s :: ss, Q => putV r i (fun r2 => putAll r2 is ss Q) s
  | _, _, _ => False
def setAll (st : St) : List Nat → List V → St
  | i :: is, v :: vs => setAll (st.set i (some v)) is vs
  | _, _ => st
theorem mutA_new {i : Nat} {v : V} {s : Sl} {a : Addr} (h : MutA (st.set i (some v)) (r.set i (some s)) a) : MutA st r a ∨ (v = .ref a ∧ Sl.mu s = true) := by
  obtain ⟨j, t, h1, h2, h3⟩ := h
  by_cases e : j = i
  · subst e
    rw [List.getElem?_set] at h1 h3
    split at h1
    · split at h1
      · cases h1
        split at h3
        · split at h3
          · cases h3
            exact .inr ⟨rfl, h2⟩
          · cases h3
        · rename_i z; exact (z rfl).elim
      · cases h1
    · rename_i z; exact (z rfl).elim
  · rw [List.getElem?_set_ne (Ne.symm e)] at h1 h3
    exact .inl ⟨j, t, h1, h2, h3⟩
theorem put_all {Q : DEnv → Prop} : ∀ (is : List Nat) (ss : List Vl) (vs : List V) (tt : St) (rr : DEnv), Rel K E F H tt rr → Paired (VlOk K F H tt rr) vs ss → (∀ (j : Nat) (x : PyData) (q : Addr), ss[j]? = some (Vl.n x) → vs[j]? = some (V.ref q) → E.H0 q = none) → NDis vs ss →
    (∀ s ∈ ss, ∀ i, s ≠ .v i) → putAll rr is ss Q → ∃ r2, Q r2 ∧ Rel K E F H (setAll tt is vs) r2
  | [], [], _, st, r, R, .nil, _, _, _, q => ⟨r, q, R⟩
  | [], _ :: _, _, _, _, _, _, _, _, _, q => q.elim
  | _ :: _, [], _, _, _, _, _, _, _, _, q => q.elim
  | i :: is, s :: ss, v :: vs, st, r, R, .cons ok oks, n0, nd, nv, q => by
    have q : putV r i (fun r2 => putAll r2 is ss Q) s := q
    have rest : ∀ (t : Sl), (∃ x, s = .d x ∧ t = .d x) ∨ (∃ x, s = .n x ∧ t = .l x) → Paired (VlOk K F H (st.set i (some v)) (r.set i (some t))) vs ss := fun t ht => by
      have go : ∀ {us : List V} {ts : List Vl}, Paired (VlOk K F H st r) us ts → (∀ (j : Nat) (x y : PyData), s = .n x → ts[j]? = some (Vl.n y) → us[j]? ≠ some v) → (∀ u ∈ ts, ∀ i, u ≠ .v i) → Paired (VlOk K F H (st.set i (some v)) (r.set i (some t))) us ts := by
        intro us ts h
        induction h with
        | nil => intro _ _; exact .nil
        | @cons u t0 us ts a _ ih =>
          intro hd hv
          refine .cons ?_ (ih (fun j x y e e' => by have := hd (j + 1) x y e (by simpa using e'); simpa using this) fun u hu => hv u (List.mem_cons_of_mem _ hu))
          cases t0 with
          | d x => exact a
          | v k => exact (hv _ List.mem_cons_self k rfl).elim
          | n x =>
            obtain ⟨p', e1, ob, m⟩ := a
            refine ⟨p', e1, ob, fun z => ?_⟩
            rcases mutA_new z with z | ⟨z1, z2⟩
            · exact m z
            · rcases ht with ⟨x', _, e2⟩ | ⟨x', e2, _⟩
              · subst e2; cases z2
              · exact hd 0 x' x e2 rfl (by rw [e1, z1]; rfl)
      exact go oks nd.1 fun u hu => nv u (List.mem_cons_of_mem _ hu)
    cases s with
    | d x => exact put_all is ss vs _ _ (R.put (.inl ⟨x, rfl, ok⟩)) (rest _ (.inl ⟨x, rfl, rfl⟩)) (fun j x q e e' => n0 (j + 1) x q (by simpa using e) (by simpa using e')) nd.2 (fun u hu => nv u (List.mem_cons_of_mem _ hu)) q
    | v k => exact q.elim
    | n x =>
      obtain ⟨p', e1, ob, m⟩ := ok
      subst e1
      exact put_all is ss vs _ _ (R.put (.inr ⟨x, p', rfl, rfl, ob, m, n0 0 x p' rfl rfl⟩)) (rest _ (.inr ⟨x, rfl, rfl⟩)) (fun j x q e e' => n0 (j + 1) x q (by simpa using e) (by simpa using e')) nd.2 (fun u hu => nv u (List.mem_cons_of_mem _ hu)) q
/-- a, b = e, f -/
def sPar (is : List Nat) (ha : DTA) (P : DEnds) (r : DEnv) : Prop := ha r fun ss r1 => (∀ s ∈ ss, ∀ i, s ≠ .v i) ∧ ss.length = is.length ∧ putAll r1 is ss P.nx
theorem par_fin {is : List Nat} {ss : List Vl} {vs : List V} {P : DEnds} {D : Ends} (R : Rel K E F H st r) (A : Aft K E F H st r F' H' r') (ok : Paired (VlOk K F' H' st r') vs ss) (n : Paired (New H) vs ss) (nd : NDis vs ss) (nv : ∀ s ∈ ss, ∀ i, s ≠ .v i) (q : putAll r' is ss P.nx) (k : EndsOk K E F P D) : D.nx (setAll st is vs) H' := by
  obtain ⟨r2, q2, R2⟩ := put_all is ss vs st r' A.rel ok (fun j x p' e e' => R.fresh0 (paired_at n e' e p' rfl)) nd nv q
  exact k.nx _ _ _ _ q2 R2 A.stp.gf
theorem ds_par {i j : Nat} {tg vl : Expr} {ha : DTA} (h : PS X (.Assign [tg] vl pos) (tPar i j (tDM X.K E ha))) : DS E X (.Assign [tg] vl pos) (sPar [i, j] ha) := by
  refine wkS h fun D st H ⟨F, r, P, R, p, k⟩ => ⟨F, r, _, R, p, fun ss r1 vs F1 H1 q1 A1 ok n nd => ?_⟩
  obtain ⟨nv, hl, q⟩ := q1
  have lv : vs.length = 2 := by rw [paired_len ok]; exact hl
  match vs, lv with
  | [v, w], _ => exact ⟨v, w, rfl, par_fin R A1 ok n nd nv q k⟩
/-- the names of a tuple of names -/
def gNames (is : List Nat) : TGs := fun vs σ H Q => vs.length = is.length ∧ Q (setAll σ is vs) H
theorem pgs_names0 : PGs X [] (gNames []) := ⟨fun pins s σ H vs us Q I rv ⟨h, q⟩ => by
  cases vs with
  | nil => exact (pgs_nil (X := X)).run pins s σ H [] us Q I rv ⟨rfl, q⟩
  | cons v vs => cases h⟩
theorem pgs_namesS {i : Nat} {is : List Nat} {t : Expr} {ts : List Expr} (h1 : PG X t (gName i)) (h2 : PGs X ts (gNames is)) (hs : (assignEach (t :: ts) X.env).map (·.2) = assign t X.env :: (assignEach ts X.env).map (·.2) := by rfl) : PGs X (t :: ts) (gNames (i :: is)) :=
  ⟨fun pins s σ H vs us Q I rv ⟨h, q⟩ => by
    cases vs with
    | nil => cases h
    | cons v vs => exact (pgs_cons h1 h2 hs).run pins s σ H (v :: vs) us Q I rv ⟨v, vs, rfl, Nat.succ.inj h, q⟩⟩
theorem ds_parN {is : List Nat} {tg vl : Expr} {ha : DTA} (h : PS X (.Assign [tg] vl pos) (tAsg (tTup (tDM X.K E ha)) (gTup X.K is.length (gNames is)))) (hz : is.length ≤ sizeLine) : DS E X (.Assign [tg] vl pos) (sPar is ha) := by
  refine wkS h fun D st H ⟨F, r, P, R, p, k⟩ => ⟨F, r, _, R, p, fun ss r1 vs F1 H1 q1 A1 ok n nd => ?_⟩
  obtain ⟨nv, hl, q⟩ := q1
  have lv : vs.length = is.length := by rw [paired_len ok]; exact hl
  refine ⟨by rw [lv]; exact hz, fun p' np => ⟨p', vs, rfl, SqT.of upd_same, lv, lv, ?_⟩⟩
  have B := A1.rel.newH (o := .tup vs) np
  exact par_fin R (A1.trans B) (Paired.mapP ok fun _ _ z => z.aft B) n nd nv q k
end
end DL
set_option Elab.async false
set_option linter.all false
set_option autoImplicit false
set_option maxRecDepth 100000
set_option maxHeartbeats 4000000
/-! DLl: the data layer, part twelve: operators whatever the operands are; defs by name. -/
namespace DL
open PySem PySem.Spec PyProof.Rows L2
section
variable {X : Cx} {E : Ent} {e a b : Expr} {es : List Expr} {pos p tpos : Pos} {fa fb : DT} {ga : DTF} {ha : DTA} {K : PySem.W.Frag} {F H F' H' : Hp} {st : St} {r r' : DEnv}
/-! ### operators by values -/
/-- an operation's result, as a value -/
def dOpV (B : PyData → PyData → Vl → Prop) (fa fb : DT) (r : DEnv) (P : Vl → DEnv → Prop) : Prop := fa r fun s r1 => fb r1 fun t r2 => ∃ x y w, rd r2 s = some x ∧ rd r2 t = some y ∧ B x y w ∧ P w r2
def YldV (K : PySem.W.Frag) (F H : Hp) (w : Vl) (Q : VK) : Prop := match w with
  | .d z => Yld K F H z Q
  | .n (.list zs) => YldL K F H zs Q
  | _ => False
def OpBV (K : PySem.W.Frag) (rr : R2) (B : PyData → PyData → Vl → Prop) : Prop := ∀ F H v w x y z Q, Sub F H → Rdv K F H v x → Rdv K F H w y → B x y z → YldV K F H z Q → rr v w H Q
theorem op_binV {rr : R2} {B : PyData → PyData → Vl → Prop} (h : OpBV K rr B) (hB : ∀ x y w, B x y w → (∃ z, w = .d z) ∨ ∃ zs, w = .n (.list zs)) : ∀ st H Q, tD K E (dOpV B fa fb) st H Q → tOp rr (tD K E fa) (tD K E fb) st H Q := fun st H Q ⟨F, r, P, R, p, k⟩ =>
  ⟨F, r, _, R, p, fun s r1 v F1 H1 q1 A1 ok1 n1 => ⟨F1, r1, _, A1.rel, q1, fun t r2 w F2 H2 q2 A2 ok2 n2 => by
    obtain ⟨x, y, z, e1, e2, hb, q⟩ := q2
    refine h F2 H2 v w x y z Q A2.rel.sub (A2.rel.read (ok1.aft A2) e1) (A2.rel.read ok2 e2) hb ?_
    rcases hB x y z hb with ⟨z', rfl⟩ | ⟨zs, rfl⟩
    · exact yld_of (A1.trans A2) q k
    · exact yldL_of (A1.trans A2) q k⟩⟩
def bAddU : PyData → PyData → Vl → Prop
  | .int i, .int j, w => w = .d (.int (i + j))
  | .str s, .str t, w => s.length + t.length ≤ sizeLine ∧ w = .d (.str (s ++ t))
  | .tuple xs, .tuple ys, w => xs.length + ys.length ≤ sizeLine ∧ w = .d (.tuple (xs ++ ys))
  | .list xs, .list ys, w => xs.length + ys.length ≤ sizeLine ∧ w = .n (.list (xs ++ ys))
  | _, _, _ => False
abbrev rAddU (K : PySem.W.Frag) : R2 := fun x y H Q => (rI0 (fun i j => .int (i + j)) x y H Q ∨ rCatA K x y H Q) ∨ (rCatR K x y H Q ∨ ∃ s t : Str, x = .str s ∧ y = .str t ∧ s.length + t.length ≤ sizeLine ∧ Q (.str (s ++ t)) H)
theorem opB_addU : OpBV K (rAddU K) bAddU := by
  intro F H v w x y z Q g h1 h2 hb hy
  unfold bAddU at hb
  split at hb
  · subst hb
    exact .inl (.inl ⟨_, _, h1.int, h2.int, hy.1 _ (.int _)⟩)
  · obtain ⟨hl, e⟩ := hb
    subst e
    exact .inr (.inr ⟨_, _, h1.str, h2.str, hl, hy.1 _ (.str _)⟩)
  · obtain ⟨hl, e⟩ := hb
    subst e
    exact .inl (.inr (opB_catT F H v w _ _ _ Q g h1 h2 ⟨_, _, rfl, rfl, hl, rfl⟩ hy))
  · obtain ⟨hl, e⟩ := hb
    subst e
    exact .inr (.inl (opB_catL F H v w _ _ _ Q g h1 h2 ⟨_, _, rfl, rfl, hl, rfl⟩ hy))
  · exact hb.elim
theorem bAddU_v : ∀ x y w, bAddU x y w → (∃ z, w = .d z) ∨ ∃ zs, w = .n (.list zs) := by
  intro x y w h
  unfold bAddU at h
  split at h
  · exact .inl ⟨_, h⟩
  · exact .inl ⟨_, h.2⟩
  · exact .inl ⟨_, h.2⟩
  · exact .inr ⟨_, h.2⟩
  · exact h.elim
theorem de_addU (ha : DE E X a fa) (hb : DE E X b fb) : DE E X (.BinOp a .Add b pos) (dOpV bAddU fa fb) :=
  wkE (pe_op (opR_or (opR_or op_add op_catA) (opR_or op_catR op_add_str)) ha hb) (op_binV opB_addU bAddU_v)
/-- %, // by what is positive -/
def bModP : PyData → PyData → PyData → Prop := fun x y z => ∃ i j : Int, x = .int i ∧ y = .int j ∧ 0 < j ∧ z = .int (i % j)
theorem de_modP (ha : DE E X a fa) (hb : DE E X b fb) : DE E X (.BinOp a .Mod b pos) (dOp bModP fa fb) := by
  refine de_op op_modN ?_ ha hb
  intro F H v w x y z Q g h1 h2 ⟨i, j, e1, e2, hj, e3⟩ hy
  subst e1 e2 e3
  refine ⟨i, j, h1.int, h2.int, by show j ≠ 0; omega, ?_⟩
  show Q (.int (i.fmod j)) H
  rw [Int.fmod_eq_emod_of_nonneg i (by omega)]
  exact hy.1 _ (.int _)
def bDivP : PyData → PyData → PyData → Prop := fun x y z => ∃ i j : Int, x = .int i ∧ y = .int j ∧ 0 < j ∧ (j < 1073741824 ∨ CDivW i j) ∧ z = .int (i / j)
theorem de_divP (ha : DE E X a fa) (hb : DE E X b fb) : DE E X (.BinOp a .FloorDiv b pos) (dOp bDivP fa fb) := by
  refine de_op (opR_or op_fdivN op_fdivW) ?_ ha hb
  intro F H v w x y z Q g h1 h2 ⟨i, j, e1, e2, hj, hc, e3⟩ hy
  subst e1 e2 e3
  rcases hc with hc | hc
  · refine .inl ⟨i, j, h1.int, h2.int, ⟨by show j ≠ 0; omega, by show j.natAbs < 1073741824; omega⟩, ?_⟩
    show Q (.int (i.fdiv j)) H
    rw [Int.fdiv_eq_ediv_of_nonneg i (by omega)]
    exact hy.1 _ (.int _)
  · exact .inr ⟨i, j, h1.int, h2.int, hc, hy.1 _ (.int _)⟩
/-- * of ints; one of them below 2 ^ 64, or both not too wide -/
def bMulU : PyData → PyData → PyData → Prop := fun x y z => ∃ i j : Int, x = .int i ∧ y = .int j ∧ (CMul i j ∨ CMulW i j) ∧ z = .int (i * j)
theorem de_mulU (ha : DE E X a fa) (hb : DE E X b fb) : DE E X (.BinOp a .Mult b pos) (dOp bMulU fa fb) := by
  refine de_op (opR_or op_mul op_mulW) ?_ ha hb
  intro F H v w x y z Q g h1 h2 ⟨i, j, e1, e2, hc, e3⟩ hy
  subst e1 e2 e3
  rcases hc with hc | hc
  · exact .inl ⟨i, j, h1.int, h2.int, hc, hy.1 _ (.int _)⟩
  · exact .inr ⟨i, j, h1.int, h2.int, hc, hy.1 _ (.int _)⟩
end

/-! ### defs by name -/
section
variable {P : Program} {w : World} {K : PySem.W.Frag} {mg : Str → Option Value} {base : Heap}
/-- every parameter given by its name, the last one first -/
def KwB (fd : FuncData) (ps : List Str) : Prop := ∀ (s : Shared) (ws : List Value), ws.length = ps.length → BindsTo s fd ⟨[], ps.reverse.zip ws⟩ (ps.zip ws.reverse)
theorem Fun.kwb {x qual : Str} {st : Stmt} {f : Addr} {fd : FuncData} {ps : List Str} (F : Fun K x qual st f fd)
    (h : ∀ (dK doc pm : Value) (an : Option Addr) (cdv ct : Value) (ws : List Value), ws.length = ps.length → bindArgs (PySem.W.fnOf x qual (defArgs st) (defBody st) (defScope st) .none dK doc pm an cdv ct) ⟨[], ps.reverse.zip ws⟩ = pure (ps.zip ws.reverse)) : KwB fd ps := by
  obtain ⟨oc, od, dK, doc, pm, an, cdv, ct, osl, rfl, lk, hcd⟩ := F.ex
  exact fun s ws hl => .of_eq (h dK doc pm an cdv ct ws hl)
/-- the def st stands at the name x -/
def Def0 (K : PySem.W.Frag) (mg : Str → Option Value) (x : Str) (st : Stmt) (ps : List Str) : Prop := ∃ f fd, Fun K x x st f fd ∧ mg x = some (.ref f) ∧ Binds K fd ps [] ∧ KwB fd ps
/-- the def at the name x keeps the promise S -/
def lenS (n : Nat) (S : DSpec) : DSpec := fun as Q PX => as.length = n ∧ S as Q PX
def Cal (P : Program) (w : World) (K : PySem.W.Frag) (mg : Str → Option Value) (base : Heap) (k : Nat) (x : Str) (ps : List Str) (S : DSpec) : Prop :=
  ∃ f fd, FnG P w K mg base k f fd ps (spD K mg ps.length (lenS ps.length S)) ∧ mg x = some (.ref f) ∧ PySem.W.keepIn K (.ref f) = true ∧ Binds K fd ps [] ∧ KwB fd ps
theorem Cal.up {j k : Nat} {x : Str} {ps : List Str} {S : DSpec} (C : Cal P w K mg base j x ps S) (h : j ≤ k) : Cal P w K mg base k x ps S := by
  obtain ⟨f, fd, G, m⟩ := C
  exact ⟨f, fd, G.up h, m⟩
/-- another promise that follows -/
theorem Cal.imp {k : Nat} {x : Str} {ps : List Str} {S S' : DSpec} (C : Cal P w K mg base k x ps S) (h : ∀ as Q PX, S' as Q PX → S as Q PX) : Cal P w K mg base k x ps S' := by
  obtain ⟨f, fd, G, m⟩ := C
  refine ⟨f, fd, G.imp fun vs H Q E z => ?_, m⟩
  obtain ⟨z1, F, as, bp, P0, PX, z2, z3, z4, z5⟩ := z
  exact ⟨z1, F, as, bp, P0, PX, z2, z3, ⟨z4.1, h _ _ _ z4.2⟩, z5⟩
theorem cal_of {x : Str} {st : Stmt} {N ps : List Str} {k : Nat} {S : DSpec} (D : Def0 K mg x st ps) (Sc : FnScope N ps (defScope st))
    (body : ∀ (f : Addr) (cdv : Value) (A : Around) (outer : List Env) (s : Shared) (H : Hp) (EX : XK) (E : Ent) (as : List Sl) (Q : Sl → Option PyData → Prop) (PX : Exn → Prop),
      Room k (A.deeper (envOfC x (defScope st) s.heap.objs.size f cdv)) → A.guards = some [] → S as Q PX → (noB as = true → RaisesOk K mg E PX EX) →
      ∃ g, DSs E (cxOf (L2.CX P w) P w K mg base N x (defScope st) f cdv A outer s H EX) (defBody st) g ∧ g (endD as Q) (entD N.length as)) :
    Cal P w K mg base (k + 1) x ps S := by
  obtain ⟨f, fd, F, m, b⟩ := D
  exact ⟨f, fd, fnD F Sc fun cdv A outer s H EX E as Q PX hr hg _ hS hx => body f cdv A outer s H EX E as Q PX hr hg hS.2 hx, m, F.kp, b⟩
end
section
variable {X : Cx} {E : Ent} {e : Expr} {es : List Expr} {pos p : Pos} {ha : DTA} {k : Nat} {x : Str} {ps : List Str} {S : DSpec}
/-- a call that raises nothing -/
theorem de_cal {n : Nat} (C : Cal X.prog X.w X.K X.mg X.base k x ps S) (hr : Room k X.A) (hgu : X.A.guards = some []) (hg : Gl X x) (h : DA E X (e :: es) ha) (hdb : (x == ("__debug__" : Str)) = false := by decide)
    (he : starEach (e :: es) X.env = (false, eval e X.env) :: starEach es X.env := by rfl) (hpl : (backTo pos (starEach es X.env)).any (·.1) = false := by rfl) (hn : ps.length = n := by rfl) : DE E X (.Call (.Name x p) (e :: es) [] pos) (dCall (lenS n S) (fun _ => False) ha) := by
  subst hn
  obtain ⟨f, fd, G, m, kp, b⟩ := C
  exact de_callD (EX := E0) (pe_callG G hr hgu hg m kp b.1 .nil passL h hdb he hpl) (fun _ _ _ _ _ _ _ _ z _ => z.elim) fun _ _ _ q => q.1
end
end DL
set_option Elab.async false
set_option linter.all false
set_option autoImplicit false
set_option maxRecDepth 100000
set_option maxHeartbeats 4000000
/-! DLm: the data layer, part thirteen: loops over lists or tuples, whichever; tests. -/
namespace DL
open PySem PySem.Spec PyProof.Rows L2
section
variable {X : Cx} {E : Ent} {e a b c tg : Expr} {es : List Expr} {pos p tpos : Pos} {fa fb fc : DT} {ga : DTF} {ha : DTA} {K : PySem.W.Frag} {F H F' H' : Hp} {st : St} {r r' : DEnv} {elts : List Expr} {kk : Nat}
def iSq (K : PySem.W.Frag) (tl : TE) : TI := fun σ H R => tl σ H fun x H1 => (∃ a, x = .ref a ∧ (∃ xs, SqL K H1 a xs) ∧ R (Itl K a) H1) ∨ ∃ a, x = .ref a ∧ (∃ xs, SqT K H1 a xs) ∧ R (Itt K a) H1
theorem pi_sq {tl : TE} (hl : PE X e tl) : PI X tg e (iSq X.K tl) := by
  constructor
  intro pins s σ H R I h
  refine thn (hl.run pins s σ H _ I h) ?_
  rintro v s1 ⟨x, H1, I1, r1, q1⟩
  have fp : ∀ b ∈ [s1.heap.objs.size], FpOk X pins H1 b := fun b hb => by
    cases List.mem_singleton.mp hb
    exact I1.fpOk (Nat.le_refl _) (I1.hok.fresh (Nat.le_refl _))
  rcases q1 with ⟨a, e, ⟨xs, hq⟩, q⟩ | ⟨a, e, ⟨xs, hq⟩, q⟩
  · subst e
    cases r1
    obtain ⟨its, rv, p, hz⟩ := I1.list hq
    refine wpAny_pyIter_list p.isList ?_
    exact ⟨s1.heap.objs.size, [s1.heap.objs.size], _, _, H1, rfl, I1.kept (t' := s1.toks) fun b o z => Heap.get?_push_of_some _ z, turn_list a _, ⟨_, Heap.get?_push_size _ rfl, rfl, rfl⟩, fp, q⟩
  · subst e
    cases r1
    obtain ⟨its, rv, p, hz⟩ := I1.tuple hq
    refine wpAny_pyIter_tuple (show s1.heap.IsTuple a its.toArray from p) ?_
    exact ⟨s1.heap.objs.size, [s1.heap.objs.size], _, _, H1, rfl, I1.kept (t' := s1.toks) fun b o z => Heap.get?_push_of_some _ z, turn_tuple a _, ⟨_, Heap.get?_push_size _ rfl, rfl, rfl⟩, fp, q⟩
/-- over a list or a tuple that stays -/
def iSeqU (fa : DT) (r : DEnv) (P : List PyData → DEnv → Prop) : Prop := dFz fa r fun s r1 => ∃ xs, (s = .d (.list xs) ∨ s = .d (.tuple xs)) ∧ P xs r1
theorem di_seq (h : DE E X e fa) : PI X tg e (tDI X.K E (iSeqU fa)) :=
  wkI (pi_sq (de_fz h)) fun st H R ⟨F, r, P, R0, p, k⟩ => ⟨F, r, _, R0, p, fun s r1 v F1 H1 q1 A1 ok n => by
    obtain ⟨xs, e, q⟩ := q1
    rcases e with e | e
    · subst e
      cases (show Rp X.K F1 v (.list xs) from ok) with
      | lst h1 h2 => exact .inl ⟨_, rfl, ⟨_, A1.rel.sub.seq h1⟩, k _ _ _ _ _ q A1 (dwalk_list h1 h2)⟩
    · subst e
      cases (show Rp X.K F1 v (.tuple xs) from ok) with
      | tup h1 h2 => exact .inr ⟨_, rfl, ⟨_, A1.rel.sub.tup (SqT.of h1)⟩, k _ _ _ _ _ q A1 (dwalk_tup (SqT.of h1) h2)⟩⟩
def iEnumSq (K : PySem.W.Frag) (ta : TA) : TI := fun σ H R => ta σ H fun vs H1 => (∃ a xs, vs = [.ref a] ∧ SqL K H1 a xs ∧ R (Ite K a) H1) ∨ ∃ a xs, vs = [.ref a] ∧ SqT K H1 a xs ∧ R (IteT K a) H1
theorem pi_enumSq {ta : TA} (hg : Gl X "enumerate") (hm : X.mg "enumerate" = none) (ha : PA X [e] ta) (hs : starEach [e] X.env = [(false, eval e X.env)] := by rfl) :
    PI X (.Tuple elts kk tpos) (.Call (.Name "enumerate" p) [e] [] pos) (iEnumSq X.K ta) := by
  constructor
  intro pins s σ H R I h
  refine Call_ (ld_blt I hg hm boot_enumerate (PyProof.Rows.callWith_type1 (thn (ha.run pos pins s σ H _ I h) ?_) hs rfl))
  rintro us s1 ⟨vs, H1, I1, r1, q1⟩
  have fp : ∀ b ∈ [s1.heap.objs.size + 1, s1.heap.objs.size], FpOk X pins H1 b := fun b hb => by
    have hle : s1.heap.objs.size ≤ b := by
      rcases List.mem_cons.mp hb with z | z
      · rw [z]; exact Nat.le_add_right _ _
      · rw [List.mem_singleton.mp z]; exact Nat.le_refl _
    exact I1.fpOk hle (I1.hok.fresh hle)
  rcases q1 with ⟨a, xs, ex, hq, q⟩ | ⟨a, xs, ex, hq, q⟩
  · subst ex
    cases r1 with
    | cons r rr =>
      cases rr
      cases r
      obtain ⟨its, rv, p', hz⟩ := I1.list hq
      refine call_enumerate_list p'.isList fun h' he hit hsz hk => wpAny_pyIter_enum he ?_
      exact ⟨s1.heap.objs.size + 1, [s1.heap.objs.size + 1, s1.heap.objs.size], _, _, H1, rfl, I1.kept (t' := s1.toks) hk, turn_enum a (s1.heap.objs.size + 1) s1.heap.objs.size, ⟨⟨.none, he⟩, hit, Nat.succ_ne_self _⟩, fp, q⟩
  · subst ex
    cases r1 with
    | cons r rr =>
      cases rr
      cases r
      obtain ⟨its, rv, p', hz⟩ := I1.tuple hq
      refine dl_call_enumT (show s1.heap.IsTuple a its.toArray from p') fun h' he hit hk => wpAny_pyIter_enum he ?_
      exact ⟨s1.heap.objs.size + 1, [s1.heap.objs.size + 1, s1.heap.objs.size], _, _, H1, rfl, I1.kept (t' := s1.toks) hk, turn_enumT a (s1.heap.objs.size + 1) s1.heap.objs.size, ⟨⟨.none, he⟩, hit, Nat.succ_ne_self _⟩, fp, q⟩
def iEnumU (fa : DTF) (r : DEnv) (P : List PyData → DEnv → Prop) : Prop := fa r fun ys r1 => ∃ xs, (ys = [.list xs] ∨ ys = [.tuple xs]) ∧ P (enumD xs) r1
theorem di_enum (hg : Gl X "enumerate") (hm : X.mg "enumerate" = none) (h : DF E X [e] ga) (hs : starEach [e] X.env = [(false, eval e X.env)] := by rfl) : PI X (.Tuple elts kk tpos) (.Call (.Name "enumerate" p) [e] [] pos) (tDI X.K E (iEnumU ga)) :=
  wkI (pi_enumSq hg hm h hs) fun st H R ⟨F, r, P, R0, p, k⟩ => ⟨F, r, _, R0, p, fun ys r1 vs F1 H1 q1 A1 ok => by
    obtain ⟨xs, e, q⟩ := q1
    rcases e with e | e
    · subst e
      cases ok with
      | cons h0 t =>
        cases t
        cases h0 with
        | lst h1 h2 =>
          refine .inl ⟨_, _, rfl, A1.rel.sub.seq h1, k _ _ _ _ _ q A1 (dwalk_pair walk_enum (by rw [enumD_len, rps_len h2]) (fun F2 H s g => g.seq (s.seq h1)) fun i u v hi e1 e2 => ?_)⟩
          cases e1
          obtain ⟨x, e3, e4⟩ := rps_at' h2 e2
          exact ⟨_, _, enumD_at e3, .int _, e4⟩
    · subst e
      cases ok with
      | cons h0 t =>
        cases t
        cases h0 with
        | tup h1 h2 =>
          refine .inr ⟨_, _, rfl, A1.rel.sub.tup (SqT.of h1), k _ _ _ _ _ q A1 (dwalk_pair walk_enumT (by rw [enumD_len, rps_len h2]) (fun F2 H s g => g.tup (sameT s (SqT.of h1))) fun i u v hi e1 e2 => ?_)⟩
          cases e1
          obtain ⟨x, e3, e4⟩ := rps_at' h2 e2
          exact ⟨_, _, enumD_at e3, .int _, e4⟩⟩

/-! ### tests that compare -/
theorem dt_of {t : TE} {f : DT} (h : PT X e (tTest t)) (k : ∀ st H Q, tD X.K E f st H Q → t st H Q) : DTe E X e (dTe f) :=
  wkT h fun st H Q ⟨F, r, P, R, p, kk⟩ => k st H _ ⟨F, r, _, R, p, fun s r1 v F1 H1 q1 A1 ok n => by
    obtain ⟨b, e, q⟩ := q1
    subst e
    cases ok
    exact ⟨b, rfl, kk _ _ _ _ q A1⟩⟩
theorem dt_cmp {op : CmpOp} {rr : R2} {B : PyData → PyData → PyData → Prop} (ho : OpR X (compareOp op) rr) (h : OpB X.K rr B) (ha : DE E X a fa) (hb : DE E X b fb) (hm : behindInMarks op b = false) : DTe E X (.Compare a [op] [b] pos) (dTe (dOp B fa fb)) :=
  dt_of (pt_cmpR ho ha hb hm) (op_bin h)
theorem oLt : OpB K (rI0 fun i j => .bl (decide (i < j))) bLt := opB_int0 fun _ _ _ _ => .bl _
theorem oLe : OpB K (rI0 fun i j => .bl (decide (i ≤ j))) bLe := opB_int0 fun _ _ _ _ => .bl _
theorem oGt : OpB K (rI0 fun i j => .bl (decide (j < i))) bGt := opB_int0 fun _ _ _ _ => .bl _
theorem oGe : OpB K (rI0 fun i j => .bl (decide (j ≤ i))) bGe := opB_int0 fun _ _ _ _ => .bl _
theorem chain_main {rr rr' : R2} {B B' : PyData → PyData → PyData → Prop} (h : OpB K rr B) (h' : OpB K rr' B') : ∀ st H Q, tD K E (dChain B B' fa fb fc) st H Q → tChain rr rr' (tD K E fa) (tD K E fb) (tD K E fc) st H Q := by
  rintro st H Q ⟨F, r, P, R, p, k⟩
  refine ⟨F, r, _, R, p, fun s r1 v F1 H1 q1 A1 ok1 n1 => ⟨F1, r1, _, A1.rel, q1, fun t r2 w F2 H2 q2 A2 ok2 n2 => ?_⟩⟩
  obtain ⟨x, y, b, e1, e2, hb, q⟩ := q2
  subst e2
  have fin : ∀ F3 H3, Aft K E F H st r F3 H3 r2 → Rp K F3 w y → ∃ k, V.bl b = .bl k ∧ (if k = true then tD K E fc st H3 (fun w' H4 => rr' w w' H4 Q) else Q (.bl false) H3) := by
    intro F3 H3 A3 oky
    refine ⟨b, rfl, ?_⟩
    cases b with
    | true =>
      rw [if_pos rfl] at q ⊢
      refine ⟨F3, r2, _, A3.rel, q, fun u r3 w' F4 H4 q3 A4 ok3 n3 => ?_⟩
      obtain ⟨y', z, e3, hb', q4⟩ := q3
      exact h' F4 H4 w w' y y' z Q A4.rel.sub (.inl (rpM A4.stp.gf oky)) (A4.rel.read ok3 e3) hb' (yld_of (A3.trans A4) q4 k)
    | false =>
      rw [if_neg Bool.false_ne_true] at q ⊢
      exact k _ _ _ _ _ q A3 (.bl _) trivial
  have A12 := A1.trans A2
  refine h F2 H2 v w x y (.bool b) _ A2.rel.sub (A2.rel.read (ok1.aft A2) e1) (.inl ok2) hb ⟨fun v' hv => ?_, fun p' o v' n hv => ?_⟩
  · cases hv
    exact fin F2 H2 A12 ok2
  · cases hv
    have B1 := A2.rel.new (o := o) n
    exact fin _ _ (A12.trans B1) (rpM B1.stp.gf ok2)
theorem dt_chain {op op' : CmpOp} {rr rr' : R2} {B B' : PyData → PyData → PyData → Prop} (h1 : PT X (.Compare a [op, op'] [b, c] pos) (tTest (tChain rr rr' (tD X.K E fa) (tD X.K E fb) (tD X.K E fc)))) (h : OpB X.K rr B) (h' : OpB X.K rr' B') :
    DTe E X (.Compare a [op, op'] [b, c] pos) (dTe (dChain B B' fa fb fc)) := dt_of h1 (chain_main h h')
theorem Room.u66 {k : Nat} {A : Around} (h : Room k A) : A.units + 66 < cLine := by
  have := h.un
  omega
/-- -e -/
def dNeg (fa : DT) (r : DEnv) (P : Vl → DEnv → Prop) : Prop := fa r fun s r1 => ∃ i : Int, s = .d (.int i) ∧ P (.d (.int (-i))) r1
theorem de_neg (h : DE E X e fa) : DE E X (.UnaryOp .USub e pos) (dNeg fa) := by
  refine wkE (pe_un un_neg h) fun st H Q ⟨F, r, P, R, p, k⟩ => ⟨F, r, _, R, p, fun s r1 v F1 H1 q1 A1 ok n => ?_⟩
  obtain ⟨i, e, q⟩ := q1
  subst e
  cases ok
  exact ⟨i, rfl, k _ _ _ _ _ q A1 (.int _) trivial⟩
end
end DL
set_option Elab.async false
set_option linter.all false
set_option autoImplicit false
set_option maxRecDepth 100000
set_option maxHeartbeats 4000000
/-! DLn: the data layer, part fourteen: the end of a law. -/
namespace DL
open PySem PySem.Spec PyProof.Rows L2
/-- the law's own promise: at each script it hands back True -/
def S_law : DSpec := fun as P _ => ∃ ns : List Int, as = [.d (.list (ns.map .int))] ∧ ns.length ≤ 63 ∧ P (.d (.bool true)) none
theorem law_end {P : Program} {w : World} {K : PySem.W.Frag} {mg mb : Str → Option Value} {k : Nat} {fa a : Addr} {x : Str} {s₁ : Shared} {vs : List Value} {ns : List Int} {fd : FuncData}
    (KX : K.In s₁.heap) (hns : s₁.heap.Ns mainGlobals mg) (hb : s₁.heap.Ns builtinsNs mb) (hbb : ∀ x : Str, x ≠ "__name__" → mb x = bootBuiltins x) (hlim : s₁.heap.NoLimit) (hg : s₁.gens = #[])
    (ha : s₁.heap.get? a = some { cls := .type "list", data := .seq vs.toArray }) (hi : IntsAre vs ns) (hl : ns.length ≤ 63) (hr : Room k callerA)
    (F : ∀ base : Heap, K.In base → base.Ns mainGlobals mg → FnG P w K mg base k fa fd [x] (spD K mg 1 (lenS 1 S_law))) (bind : ∀ (s : Shared) (u : Value), BindsTo s fd ⟨[u], []⟩ [(x, u)]) :
    codeAny (model P w) callerA (.call (.ref fa) ⟨[.ref a], []⟩) (fun r s' => r = .ok (.ret (.bool true)) ∧ OldK s₁.heap s'.heap ∧ s'.os = s₁.os ∧ AllBare s'.gens) s₁ := by
  have rv := vals_ints hi
  have lenV := hi.length
  have core : ∀ H : Hp, (∀ b, H b = none ∨ b = a) → (∀ u, H a = some u → ∃ o, u = .frz o (.lst (ns.map V.int))) → SqL K H a (ns.map V.int) → HOk P w H s₁.heap → (H a ≠ none → K.lookup a = none) →
      codeAny (model P w) callerA (.call (.ref fa) ⟨[.ref a], []⟩) (fun r s' => r = .ok (.ret (.bool true)) ∧ OldK s₁.heap s'.heap ∧ s'.os = s₁.os ∧ AllBare s'.gens) s₁ := by
    intro H hO hF hS ok hK
    have only : ∀ {b : Addr}, H b ≠ none → b = a := fun {b} h => (hO b).elim (fun z => (h z).elim) id
    have ground : ∀ {b : Addr} {o : Obj}, s₁.heap.get? b = some o → H b = none → (hidT s₁.heap H).get? b = some o := fun e n => hidT_get e n
    have dictFree : ∀ {b : Addr} {o : Obj} {es : Array DictEntry} {ep : Nat}, s₁.heap.get? b = some o → o.data = .dict es ep → H b = none := by
      intro b o es ep e d
      rcases hO b with z | z
      · exact z
      · subst z
        rw [ha] at e
        cases e
        have d : Data.seq vs.toArray _ = Data.dict es ep := d
        cases d
    have nsG : ∀ {b : Addr} {m : Str → Option Value}, s₁.heap.Ns b m → (hidT s₁.heap H).Ns b m := by
      intro b m ⟨o, es, ep, e, d, r⟩
      exact ⟨o, es, ep, ground e (dictFree e d), d, r⟩
    have hKb : K.In (hidT s₁.heap H) := by
      intro b o e
      refine ground (KX b o e) ?_
      cases q : H b with
      | none => rfl
      | some u =>
        have hb0 : H b ≠ none := by rw [q]; simp
        have z := only hb0
        subst z
        rw [hK hb0] at e
        cases e
    have hM : Mod K mg (hidT s₁.heap H) := by
      obtain ⟨mc, h1, h2⟩ := hlim
      exact ⟨hKb, nsG hns, ⟨mb, nsG hb, hbb⟩, ⟨mc, nsG h1, h2⟩⟩
    have e0 : Env0 P w K mg (hidT s₁.heap H) callerA [] s₁ H :=
      ⟨rfl, hM, fun b o e => of_hidT e, Nat.le_of_eq (hidT_size _ _), trivial, fun b hb => absurd (show b ∈ ([] : List Addr) from hb) (by simp), ok, .of_eq hg⟩
    have args : ArgsOk K H H [V.ref a] [.d (.list (ns.map .int))] none := by
      refine ⟨rfl, fun i x e => ?_, fun i x e => ?_, fun i j x y e => ?_, fun i x e => ?_, fun p e => nomatch e⟩
      · cases i with
        | zero =>
          simp only [List.getElem?_cons_zero, Option.some.injEq, Sl.d.injEq] at e
          subst e
          exact ⟨_, rfl, .lst hS (rps_ints ns)⟩
        | succ i => simp at e
      · cases i <;> simp at e
      · cases i <;> simp at e
      · cases i <;> simp at e
    have sp : spD K mg 1 (lenS 1 S_law) [V.ref a] H (fun v H' => v = .bl true) (fun _ _ _ => False) := by
      refine ⟨rfl, H, _, none, fun s _ => s = .d (.bool true), fun _ => False, fun b o e => .inl e, args, ⟨rfl, ns, rfl, hl, rfl⟩, fun s cs v F' H' e _ ok => ?_, fun _ _ _ _ _ z => z.elim⟩
      subst e
      cases ok
      rfl
    refine codeAny_mono ((F _ hKb (nsG hns)).go callerA [] s₁ H ⟨[.ref a], []⟩ [.ref a] [.ref a] _ _ hr rfl e0 (bind s₁ (.ref a)) (.cons rfl .nil) sp) ?_
    intro r s' h
    cases r with
    | error e =>
      obtain ⟨_, _, _, _, _, _, _, _, _, _, _, _, z⟩ := h
      exact z.elim
    | ok fl =>
      cases fl with
      | next => exact False.elim h
      | brk => exact False.elim h
      | cont => exact False.elim h
      | ret u =>
        obtain ⟨v, H', os, bare, un, hok', r', q⟩ := h
        have q : v = .bl true := q
        subst q
        have r' : u = Value.bool true := r'
        subst r'
        refine ⟨rfl, OldK.of_keep ?_, os, bare⟩
        intro b o e
        cases q : H b with
        | none => exact un.keep b o e q (fun z => absurd (show b ∈ ([] : List Addr) from z) (by simp)) (by simp)
        | some u =>
          have z := only (b := b) (by rw [q]; simp)
          subst z
          obtain ⟨ob, eu⟩ := hF u q
          subst eu
          obtain ⟨e1, _⟩ := ok b _ q
          obtain ⟨e2, _⟩ := hok' b _ (un.frzs b ob _ q)
          rw [e] at e1
          cases e1
          exact e2
  cases hk : K.lookup a with
  | some o =>
    have e := KX a o hk
    rw [ha] at e
    cases e
    exact core (fun _ => none) (fun _ => .inl rfl) (fun u z => nomatch z) (.inr ⟨_, vs.toArray, _, hk, rfl, rfl, rfl, by rw [List.size_toArray, lenV]; exact Nat.le_trans hl (by decide), by simpa using rv⟩)
      (fun b u z => nomatch z) fun z => absurd rfl z
  | none =>
    let H : Hp := upd (fun _ => none) a (.frz { cls := .type "list", data := .seq vs.toArray } (.lst (ns.map V.int)))
    have hHa : H a = some (.frz { cls := .type "list", data := .seq vs.toArray } (.lst (ns.map V.int))) := upd_same
    have hHb : ∀ b, b ≠ a → H b = none := fun b h => upd_ne h
    refine core H (fun b => ?_) (fun u z => ?_) (.inl (.inr ⟨_, hHa⟩)) (fun b u z => ?_) fun _ => hk
    · by_cases h : b = a
      · exact .inr h
      · exact .inl (hHb b h)
    · rw [hHa] at z
      cases z
      exact ⟨_, rfl⟩
    · by_cases h : b = a
      · subst h
        rw [hHa] at z
        cases z
        exact ⟨ha, by rw [List.length_map]; exact Nat.le_trans hl (by decide), vs, _, rv, ha⟩
      · rw [hHb b h] at z
        cases z
/-- a def as it stands at its object -/
theorem fng_of {P : Program} {w : World} {K : PySem.W.Frag} {mg : Str → Option Value} {base : Heap} {x : Str} {st : Stmt} {f : Addr} {fd : FuncData} {N ps : List Str} {k : Nat} {S : DSpec} (F : Fun K x x st f fd) (Sc : FnScope N ps (defScope st))
    (body : ∀ (f : Addr) (cdv : Value) (A : Around) (outer : List Env) (s : Shared) (H : Hp) (EX : XK) (E : Ent) (as : List Sl) (Q : Sl → Option PyData → Prop) (PX : Exn → Prop),
      Room k (A.deeper (envOfC x (defScope st) s.heap.objs.size f cdv)) → A.guards = some [] → S as Q PX → (noB as = true → RaisesOk K mg E PX EX) →
      ∃ g, DSs E (cxOf (L2.CX P w) P w K mg base N x (defScope st) f cdv A outer s H EX) (defBody st) g ∧ g (endD as Q) (entD N.length as)) :
    FnG P w K mg base (k + 1) f fd ps (spD K mg ps.length (lenS ps.length S)) :=
  fnD F Sc fun cdv A outer s H EX E as Q PX hr hg _ hS hx => body f cdv A outer s H EX E as Q PX hr hg hS.2 hx
theorem walkG {l : PySem.W.OpenLaw} {k : Nat} {q : Program} {loose : List Str} {XP : (Str → Option Value) → Heap → Prop} {YP : World → Heap → Prop} {d : DefRec} {K : Params → PySem.W.Frag} {x : Str}
    (hn : l.most = some 63) (hdf : d.params.defaults = []) (hr : Room k callerA) (hY : ∀ (w : World) (h : Heap), YP w h → (K w.params).In h)
    (F : ∀ (w : World) (mg : Str → Option Value) (fa : Addr) (h : Heap), (K w.params).In h → h.Ns mainGlobals mg → mg d.name = some (.ref fa) →
      ∃ fd : FuncData, (∀ (s : Shared) (u : Value), BindsTo s fd ⟨[u], []⟩ [(x, u)]) ∧
        ∀ base : Heap, (K w.params).In base → base.Ns mainGlobals mg → FnG l.prog w (K w.params) mg base k fa fd [x] (spD (K w.params) mg 1 (lenS 1 S_law))) :
    PySem.W.WalkO q loose XP YP l.row.toRowW d [] (fun f vs => PySem.call f vs) := by
  refine Att.attach_call hn hdf ?_
  intro w s₀ s₁ mg mb fa o pm cd doc a vs ns G Y ho hd hcd hmg hobj hints hlen hg
  have KX := hY w _ Y
  obtain ⟨fd, hb, hF⟩ := F w mg fa _ KX G.T.g hmg
  exact law_end KX G.T.g G.T.b G.T.builtins G.T.nolimit hg hobj hints hlen hr hF hb
end DL
set_option Elab.async false
set_option linter.all false
set_option autoImplicit false
set_option maxRecDepth 100000
set_option maxHeartbeats 4000000
/-! DLo: the data layer, part fifteen: == of texts or data. -/
namespace DL
open PySem PySem.Spec PyProof.Rows L2
section
variable {X : Cx} {E : Ent} {K : PySem.W.Frag} {F H : Hp}
def bEqU (x y z : PyData) : Prop := match x, y with
  | .str s, .str t => z = .bool (decide (s = t))
  | x, y => bEq x y z
def bNeU (x y z : PyData) : Prop := match x, y with
  | .str s, .str t => z = .bool (!decide (s = t))
  | x, y => bNe x y z
abbrev rEqU (K : PySem.W.Frag) : R2 := fun x y H Q => rEqD K x y H Q ∨ rEq x y H Q
abbrev rNeU (K : PySem.W.Frag) : R2 := fun x y H Q => rNeD K x y H Q ∨ rNe x y H Q
theorem op_eqU (hu : X.A.units + 64 < cLine) : OpR X (compareOp .Eq) (rEqU X.K) := opR_or (op_eqD hu) op_eq
theorem op_neU (hu : X.A.units + 64 < cLine) : OpR X (compareOp .NotEq) (rNeU X.K) := opR_or (op_neD hu) op_ne
theorem strV_eq (s t : Str) : decide (V.str s = V.str t) = decide (s = t) := by
  by_cases h : s = t
  · simp [h]
  · simp [h]
theorem opB_eqU : OpB K (rEqU K) bEqU := by
  intro F H v w x y z Q g h1 h2 hb hy
  unfold bEqU at hb
  split at hb
  · subst hb
    rw [h1.str, h2.str]
    refine .inr ⟨rfl, ?_⟩
    rw [strV_eq]
    exact hy.1 _ (.bl _)
  · exact .inl (opB_eq F H v w _ _ z Q g h1 h2 hb hy)
theorem opB_neU : OpB K (rNeU K) bNeU := by
  intro F H v w x y z Q g h1 h2 hb hy
  unfold bNeU at hb
  split at hb
  · subst hb
    rw [h1.str, h2.str]
    refine .inr ⟨rfl, ?_⟩
    rw [strV_eq]
    exact hy.1 _ (.bl _)
  · exact .inl (opB_ne F H v w _ _ z Q g h1 h2 hb hy)
end
end DL
set_option Elab.async false
set_option linter.all false
set_option autoImplicit false
set_option maxRecDepth 100000
set_option maxHeartbeats 4000000
/-! DLv: readings over data, opened. -/
namespace DL
open PySem L2
theorem vls_nil {r : DEnv} {xs : List PyData} : VlsRd r [] xs ↔ xs = [] := ⟨fun h => by cases h; rfl, fun h => h ▸ .nil⟩
theorem vls_cons {r : DEnv} {s : Vl} {ss : List Vl} {xs : List PyData} : VlsRd r (s :: ss) xs ↔ ∃ x ys, rd r s = some x ∧ VlsRd r ss ys ∧ xs = x :: ys :=
  ⟨fun h => by cases h with | cons a b => exact ⟨_, _, a, b, rfl⟩, fun ⟨x, ys, a, b, e⟩ => e ▸ .cons a b⟩
theorem sz_eq : sizeLine = 16777216 := rfl
/-! ### what == asks of data -/
theorem nd_int (i : Int) : noDic (.int i) = true := rfl
theorem nd_bool (i : Bool) : noDic (.bool i) = true := rfl
theorem nd_str (i : Str) : noDic (.str i) = true := rfl
theorem nd_none : noDic .none = true := rfl
theorem nd_tup (xs : List PyData) : noDic (.tuple xs) = noDics xs := by unfold noDic; rfl
theorem nd_list (xs : List PyData) : noDic (.list xs) = noDics xs := by unfold noDic; rfl
theorem nd_nil : noDics [] = true := rfl
theorem nd_cons (x : PyData) (xs : List PyData) : noDics (x :: xs) = (noDic x && noDics xs) := by rw [noDics]
theorem sh_int (i : Int) : SeqAt.shaped (.int i) = true := by simp [SeqAt.shaped, PyData.canLay0, PyData.depth]
theorem sh_bool (i : Bool) : SeqAt.shaped (.bool i) = true := by simp [SeqAt.shaped, PyData.canLay0, PyData.depth]
theorem sh_none : SeqAt.shaped .none = true := by simp [SeqAt.shaped, PyData.canLay0, PyData.depth]
theorem sh_str (i : Str) (h : PyData.strOk i = true) : SeqAt.shaped (.str i) = true := by simp [SeqAt.shaped, PyData.canLay0, PyData.depth, h]
theorem eqv_int (i j : Int) : PyData.eqv (.int i) (.int j) = decide (i = j) := by
  rw [PyData.eqv]
  by_cases h : i = j
  · simp [h]
  · simp [h]
theorem eqv_str (i j : Str) : PyData.eqv (.str i) (.str j) = (i == j) := by rw [PyData.eqv]
theorem at0 (a : PyData) (r : List PyData) : atD (a :: r) 0 = some a := by
  unfold atD ixN
  rw [if_pos (by decide), if_pos (by simp <;> omega)]
  rfl
theorem at1 (a b : PyData) (r : List PyData) : atD (a :: b :: r) 1 = some b := by
  unfold atD ixN
  rw [if_pos (by decide), if_pos (by simp <;> omega)]
  rfl
theorem at2 (a b c : PyData) (r : List PyData) : atD (a :: b :: c :: r) 2 = some c := by
  unfold atD ixN
  rw [if_pos (by decide), if_pos (by simp <;> omega)]
  rfl
theorem at3 (a b c d : PyData) (r : List PyData) : atD (a :: b :: c :: d :: r) 3 = some d := by
  unfold atD ixN
  rw [if_pos (by decide), if_pos (by simp <;> omega)]
  rfl
theorem at4 (a b c d e : PyData) (r : List PyData) : atD (a :: b :: c :: d :: e :: r) 4 = some e := by
  unfold atD ixN
  rw [if_pos (by decide), if_pos (by simp <;> omega)]
  rfl
theorem ix30 : ixN 3 0 = some 0 := by decide
theorem ix31 : ixN 3 1 = some 1 := by decide
theorem ix32 : ixN 3 2 = some 2 := by decide
/-! ### comprehensions and loops -/
/-- one statement, then the rest from what it leaves -/
theorem seq_cut {g1 g2 : DTS} {P : DEnds} {r : DEnv} (R : DEnv → Prop) (h : ∀ X : DEnv → Prop, (∀ r', R r' → X r') → g1 { P with nx := X } r) (k : ∀ r', R r' → g2 P r') : sSeq g1 g2 P r := h (g2 P) k
theorem lc_fm {xs : List PyData} {r1 : DEnv} {dg : DTG} {tt : DTT} {fe : DT} {own : List Nat} {P : Vl → DEnv → Prop} (keep : PyData → Bool) (f : PyData → PyData) (hs : xs.length ≤ sizeLine)
    (h : ∀ x ∈ xs, ∀ (A : PyData → DEnv → Prop) (B : DEnv → Prop), (keep x = true → A (f x) (wipeD r1 own)) → (keep x = false → B (wipeD r1 own)) →
      dg x (wipeD r1 own) fun r2 => tt r2 fun b r3 => if b = true then dFz fe r3 fun s r4 => ∃ y, s = .d y ∧ A y (wipeD r4 own) else B (wipeD r3 own))
    (q : P (.n (.list ((xs.filter keep).map f))) (backD r1 (wipeD r1 own) own)) :
    LcIn xs r1 dg tt fe own P := by
  refine ⟨fun pre acc r' => r' = wipeD r1 own ∧ acc = (pre.filter keep).map f, ⟨rfl, rfl⟩, ?_, ?_⟩
  · rintro pre x post acc r' e ⟨rfl, rfl⟩
    have hx : x ∈ xs := by rw [e]; simp
    have hl : ((pre.filter keep).map f).length < sizeLine := by
      have h1 : (pre.filter keep).length ≤ pre.length := List.length_filter_le _ _
      rw [List.length_map]
      rw [e, List.length_append, List.length_cons] at hs
      omega
    refine h x hx (fun y r => ((pre.filter keep).map f).length < sizeLine ∧ r = wipeD r1 own ∧ (pre.filter keep).map f ++ [y] = ((pre ++ [x]).filter keep).map f) (fun r => r = wipeD r1 own ∧ (pre.filter keep).map f = ((pre ++ [x]).filter keep).map f) (fun k => ⟨hl, rfl, ?_⟩) (fun k => ⟨rfl, ?_⟩)
    · rw [List.filter_append, List.map_append, List.filter_cons, if_pos k]
      rfl
    · rw [List.filter_append, List.map_append, List.filter_cons, k]
      simp
  · rintro acc r' ⟨rfl, rfl⟩
    exact q
theorem lc_map {xs : List PyData} {r1 : DEnv} {dg : DTG} {fe : DT} {own : List Nat} {P : Vl → DEnv → Prop} (f : PyData → PyData) (hs : xs.length ≤ sizeLine)
    (h : ∀ x ∈ xs, ∀ (A : PyData → DEnv → Prop), A (f x) (wipeD r1 own) → dg x (wipeD r1 own) fun r2 => dFz fe r2 fun s r4 => ∃ y, s = .d y ∧ A y (wipeD r4 own))
    (q : P (.n (.list (xs.map f))) (backD r1 (wipeD r1 own) own)) :
    LcIn xs r1 dg dtYes fe own P := by
  refine lc_fm (fun _ => true) f hs (fun x hx A B hA _ => ?_) ?_
  · have := h x hx A (hA rfl)
    exact this
  · rw [List.filter_eq_self.mpr (fun _ _ => rfl)]
    exact q
/-- a loop by the number of its laps -/
theorem for_ix {xs : List PyData} {r1 : DEnv} {tg : DTG} {g : DTS} {P : DEnds} (I : Nat → DEnv → Prop) (i0 : I 0 r1)
    (h : ∀ i x r, xs[i]? = some x → I i r → tg x r fun r2 => g { P with nx := I (i + 1), ct := I (i + 1), bk := P.nx } r2) (k : ∀ r, I xs.length r → P.nx r) : ForIn xs r1 tg g P := by
  refine ⟨fun pre r => I pre.length r, i0, fun pre x post r e i => ?_, k⟩
  have := h pre.length x r (by rw [e]; simp) i
  show tg x r fun r2 => g { P with nx := I (pre ++ [x]).length, ct := I (pre ++ [x]).length, bk := P.nx } r2
  rw [List.length_append]
  exact this
theorem rng_len (lo : Int) (n : Nat) : (rngL lo n).length = n := by unfold rngL; simp
theorem rng_at {lo : Int} {n i : Nat} {x : PyData} (h : (rngL lo n)[i]? = some x) : i < n ∧ x = .int (lo + (i : Nat)) := by
  have hi := (List.getElem?_eq_some_iff.mp h).1
  rw [rng_len] at hi
  refine ⟨hi, ?_⟩
  unfold rngL at h
  rw [List.getElem?_map, List.getElem?_range hi] at h
  exact (Option.some.inj h).symm
theorem enum_at {xs : List PyData} {i : Nat} {y : PyData} (h : (enumD xs)[i]? = some y) : ∃ x, xs[i]? = some x ∧ i < xs.length ∧ y = .tuple [.int (i : Nat), x] := by
  have hi := (List.getElem?_eq_some_iff.mp h).1
  rw [enumD_len] at hi
  have e : xs[i]? = some xs[i] := by simp [hi]
  rw [enumD_at e] at h
  exact ⟨_, e, hi, (Option.some.inj h).symm⟩
theorem for_rng {n : Nat} {r1 : DEnv} {tg : DTG} {g : DTS} {P : DEnds} (I : Nat → DEnv → Prop) (i0 : I 0 r1)
    (h : ∀ i : Nat, ∀ r, i < n → I i r → tg (.int (i : Nat)) r fun r2 => g { P with nx := I (i + 1), ct := I (i + 1), bk := P.nx } r2) (k : ∀ r, I n r → P.nx r) : ForIn (rngL 0 n) r1 tg g P := by
  refine for_ix I i0 (fun i x r e p => ?_) fun r p => k r (by rw [rng_len] at p; exact p)
  obtain ⟨hi, rfl⟩ := rng_at e
  rw [Int.zero_add]
  exact h i r hi p
theorem for_enum {xs : List PyData} {r1 : DEnv} {tg : DTG} {g : DTS} {P : DEnds} (I : Nat → DEnv → Prop) (i0 : I 0 r1)
    (h : ∀ i x r, xs[i]? = some x → i < xs.length → I i r → tg (.tuple [.int (i : Nat), x]) r fun r2 => g { P with nx := I (i + 1), ct := I (i + 1), bk := P.nx } r2) (k : ∀ r, I xs.length r → P.nx r) : ForIn (enumD xs) r1 tg g P := by
  refine for_ix I i0 (fun i x r e p => ?_) fun r p => k r (by rw [enumD_len] at p; exact p)
  obtain ⟨y, ey, hi, rfl⟩ := enum_at e
  exact h i y r ey hi p
/-- a loop whose laps keep what holds -/
theorem for_any {xs : List PyData} {r1 : DEnv} {tg : DTG} {g : DTS} {P : DEnds} (J : DEnv → Prop) (i0 : J r1)
    (h : ∀ x r, x ∈ xs → J r → tg x r fun r2 => g { P with nx := J, ct := J, bk := P.nx } r2) (k : ∀ r, J r → P.nx r) : ForIn xs r1 tg g P :=
  ⟨fun _ r => J r, i0, fun pre x post r e i => h x r (by rw [e]; simp) i, k⟩
theorem rngL_eq (n : Nat) : rngL 0 n = (List.range n).map fun i => .int (i : Nat) := by
  unfold rngL
  simp
end DL
set_option Elab.async false
set_option linter.all false
set_option autoImplicit false
set_option maxRecDepth 100000
set_option maxHeartbeats 4000000
/-! DLw: how long the text of data is. -/
namespace DL
open PySem L2
mutual
/-- no dict, no long int, no text but short plain ones -/
def ib (k : Nat) : PyData → Bool
  | .none => true
  | .bool _ => true
  | .int i => decide (i.natAbs.log2 < k)
  | .str x => PyData.strOk x && decide (10 * x.length + 4 ≤ k)
  | .list xs => ibs k xs
  | .tuple xs => ibs k xs
  | .dict _ => false
def ibs (k : Nat) : List PyData → Bool
  | [] => true
  | x :: xs => ib k x && ibs k xs
end
mutual
def nodes : PyData → Nat
  | .list xs => nodess xs + 1
  | .tuple xs => nodess xs + 1
  | _ => 1
def nodess : List PyData → Nat
  | [] => 0
  | x :: xs => nodes x + nodess xs
end
theorem listText_len (ts : List Str) : (listText ts).length ≤ piled ts + 2 := by
  unfold listText
  rw [strLen_append]
  have e2 : (("]" : String) : Str).length = 1 := rfl
  rw [e2]
  cases ts with
  | nil => show (("[" : String) : Str).length + 1 ≤ _; decide
  | cons t r =>
    show (textFrom 1 (("[" : Str) ++ (("" : String) : Str) ++ t) r).length + 1 ≤ _
    rw [textFrom_length_pos r 1 _ (by decide), strLen_append, strLen_append, piled_cons]
    have e3 : (("[" : String) : Str).length = 1 := rfl
    have e4 : (("" : String) : Str).length = 0 := rfl
    rw [e3, e4]
    omega
theorem tupleText_len (ts : List Str) : (tupleText ts).length ≤ piled ts + 3 := by
  unfold tupleText
  rw [strLen_append, strLen_append]
  have e1 : (("(" : String) : Str).length = 1 := rfl
  have e3 : (((if ts.length == 1 then ",)" else ")" : String) : Str)).length ≤ 2 := by split <;> decide
  rw [e1]
  cases ts with
  | nil =>
    have : (Str.join ((", " : String) : Str) []).length = 0 := by decide
    rw [this]
    omega
  | cons t r =>
    have := join_length_add (t :: r) (by simp)
    omega
mutual
theorem shown_len (k : Nat) (hk : 1 ≤ k) : ∀ x : PyData, ib k x = true → x.shown.length + 2 ≤ nodes x * (k + 6)
  | .none, _ => by
    show (("None" : String) : Str).length + 2 ≤ 1 * (k + 6)
    have : (("None" : String) : Str).length = 4 := rfl
    omega
  | .bool b, _ => by
    cases b with
    | true =>
      show (("True" : String) : Str).length + 2 ≤ 1 * (k + 6)
      have : (("True" : String) : Str).length = 4 := rfl
      omega
    | false =>
      show (("False" : String) : Str).length + 2 ≤ 1 * (k + 6)
      have : (("False" : String) : Str).length = 5 := rfl
      omega
  | .int i, h => by
    unfold ib at h
    have h := of_decide_eq_true h
    show ((toString i : String) : Str).length + 2 ≤ 1 * (k + 6)
    have e : ((toString i : String) : Str).length = (toString i).length := ofString_length _
    have := int_text_length_le (a := i) (k := k) hk h
    omega
  | .str x, h => by
    unfold ib at h
    rw [Bool.and_eq_true] at h
    have h2 := of_decide_eq_true h.2
    show (reprText x).length + 2 ≤ 1 * (k + 6)
    have := StrLaws.reprText_len x (fun c hc => by
      have h1 := h.1
      unfold PyData.strOk at h1
      rw [Array.all_eq_true'] at h1
      have := h1 c (Array.mem_toList_iff.mp hc)
      have := of_decide_eq_true this
      omega)
    omega
  | .list xs, h => by
    unfold ib at h
    show (listText (PyData.shownAll xs)).length + 2 ≤ nodes (.list xs) * (k + 6)
    unfold nodes
    have h1 := shown_lens k hk xs h
    have h2 := listText_len (PyData.shownAll xs)
    rw [Nat.add_mul]
    omega
  | .tuple xs, h => by
    unfold ib at h
    show (tupleText (PyData.shownAll xs)).length + 2 ≤ nodes (.tuple xs) * (k + 6)
    unfold nodes
    have h1 := shown_lens k hk xs h
    have h2 := tupleText_len (PyData.shownAll xs)
    rw [Nat.add_mul]
    omega
  | .dict _, h => by unfold ib at h; cases h
theorem shown_lens (k : Nat) (hk : 1 ≤ k) : ∀ xs : List PyData, ibs k xs = true → piled (PyData.shownAll xs) ≤ nodess xs * (k + 6)
  | [], _ => by show piled [] ≤ _; rw [piled_nil]; omega
  | x :: xs, h => by
    unfold ibs at h
    rw [Bool.and_eq_true] at h
    show piled (x.shown :: PyData.shownAll xs) ≤ nodess (x :: xs) * (k + 6)
    rw [piled_cons]
    unfold nodess
    have h1 := shown_len k hk x h.1
    have h2 := shown_lens k hk xs h.2
    rw [Nat.add_mul]
    omega
end
mutual
theorem ib_nd (k : Nat) : ∀ x : PyData, ib k x = true → noDic x = true
  | .none, _ => rfl
  | .bool _, _ => rfl
  | .int _, _ => rfl
  | .str _, _ => rfl
  | .list xs, h => by unfold ib at h; unfold noDic; exact ibs_nd k xs h
  | .tuple xs, h => by unfold ib at h; unfold noDic; exact ibs_nd k xs h
  | .dict _, h => by unfold ib at h; cases h
theorem ibs_nd (k : Nat) : ∀ xs : List PyData, ibs k xs = true → noDics xs = true
  | [], _ => rfl
  | x :: xs, h => by
    unfold ibs at h
    rw [Bool.and_eq_true] at h
    unfold noDics
    rw [ib_nd k x h.1, ibs_nd k xs h.2]
    rfl
end
mutual
theorem ib_sh (k : Nat) (hk : k ≤ 1920) : ∀ x : PyData, ib k x = true → x.showable = true
  | .none, _ => by simp [PyData.showable]
  | .bool _, _ => by simp [PyData.showable]
  | .int i, h => by
    unfold ib at h
    have h := of_decide_eq_true h
    unfold PyData.showable
    exact decide_eq_true (by omega)
  | .str _, _ => by simp [PyData.showable]
  | .list xs, h => by unfold ib at h; unfold PyData.showable; exact ibs_sh k hk xs h
  | .tuple xs, h => by unfold ib at h; unfold PyData.showable; exact ibs_sh k hk xs h
  | .dict _, h => by unfold ib at h; cases h
theorem ibs_sh (k : Nat) (hk : k ≤ 1920) : ∀ xs : List PyData, ibs k xs = true → PyData.showableAll xs = true
  | [], _ => by simp [PyData.showableAll]
  | x :: xs, h => by
    unfold ibs at h
    rw [Bool.and_eq_true] at h
    unfold PyData.showableAll
    rw [ib_sh k hk x h.1, ibs_sh k hk xs h.2]
    rfl
end
mutual
theorem ib_cl (k : Nat) : ∀ x : PyData, ib k x = true → x.canLay0 = true
  | .none, _ => by simp [PyData.canLay0]
  | .bool _, _ => by simp [PyData.canLay0]
  | .int _, _ => by simp [PyData.canLay0]
  | .str _, h => by
    unfold ib at h
    rw [Bool.and_eq_true] at h
    unfold PyData.canLay0
    exact h.1
  | .list xs, h => by unfold ib at h; unfold PyData.canLay0; exact ibs_cl k xs h
  | .tuple xs, h => by unfold ib at h; unfold PyData.canLay0; exact ibs_cl k xs h
  | .dict _, h => by unfold ib at h; cases h
theorem ibs_cl (k : Nat) : ∀ xs : List PyData, ibs k xs = true → PyData.canLayAll0 xs = true
  | [], _ => by simp [PyData.canLayAll0]
  | x :: xs, h => by
    unfold ibs at h
    rw [Bool.and_eq_true] at h
    unfold PyData.canLayAll0
    rw [ib_cl k x h.1, ibs_cl k xs h.2]
    rfl
end
theorem okR_of (k : Nat) {x : PyData} (h : ib k x = true) (hd : x.depth ≤ 64) (hn : nodes x * (k + 6) ≤ 16777216) (hk : 1 ≤ k := by decide) (hk2 : k ≤ 1920 := by decide) : OkR x :=
  ⟨ib_nd k x h, ib_sh k hk2 x h, hd, by have := shown_len k hk x h; rw [sz_eq]; omega⟩
theorem shaped_of (k : Nat) {x : PyData} (h : ib k x = true) (hd : x.depth ≤ 64) : SeqAt.shaped x = true := by
  unfold SeqAt.shaped
  rw [ib_cl k x h, decide_eq_true hd]
  rfl
/-! ### the size of lists that are maps -/
theorem ibs_map {α : Type} (k : Nat) (f : α → PyData) : ∀ {xs : List α}, (∀ x ∈ xs, ib k (f x) = true) → ibs k (xs.map f) = true
  | [], _ => rfl
  | x :: xs, h => by
    rw [List.map_cons]
    unfold ibs
    rw [h x List.mem_cons_self, ibs_map k f fun y hy => h y (List.mem_cons_of_mem _ hy)]
    rfl
theorem nodess_map {α : Type} (n : Nat) (f : α → PyData) : ∀ {xs : List α}, (∀ x ∈ xs, nodes (f x) ≤ n) → nodess (xs.map f) ≤ xs.length * n
  | [], _ => by show 0 ≤ _; omega
  | x :: xs, h => by
    rw [List.map_cons]
    unfold nodess
    have h1 := h x List.mem_cons_self
    have h2 := nodess_map n f (xs := xs) fun y hy => h y (List.mem_cons_of_mem _ hy)
    rw [List.length_cons, Nat.add_mul]
    omega
theorem depths_map {α : Type} (n : Nat) (f : α → PyData) : ∀ {xs : List α}, (∀ x ∈ xs, (f x).depth ≤ n) → PyData.depthAll (xs.map f) ≤ n
  | [], _ => by simp [PyData.depthAll]
  | x :: xs, h => by
    rw [List.map_cons]
    unfold PyData.depthAll
    have h1 := h x List.mem_cons_self
    have h2 := depths_map n f (xs := xs) fun y hy => h y (List.mem_cons_of_mem _ hy)
    omega
theorem log2_lt {i : Int} {k : Nat} (h : i.natAbs < 2 ^ k) (hk : 1 ≤ k) : i.natAbs.log2 < k := by
  by_cases h0 : i.natAbs = 0
  · rw [h0]
    have : Nat.log2 0 = 0 := by decide
    omega
  · exact (Nat.log2_lt h0).mpr h
theorem ib_int {i : Int} (h : -(2 ^ 63) < i ∧ i < 2 ^ 63) : ib 64 (.int i) = true := by
  unfold ib
  exact decide_eq_true (log2_lt (by omega) (by decide))
theorem dp_int (i : Int) : (PyData.int i).depth = 0 := by simp [PyData.depth]
theorem dp_bool (i : Bool) : (PyData.bool i).depth = 0 := by simp [PyData.depth]
theorem dp_none : PyData.none.depth = 0 := by simp [PyData.depth]
theorem dp_str (i : Str) : (PyData.str i).depth = 0 := by simp [PyData.depth]
theorem dp_list (xs : List PyData) : (PyData.list xs).depth = PyData.depthAll xs + 1 := by rw [PyData.depth]
theorem dp_tup (xs : List PyData) : (PyData.tuple xs).depth = PyData.depthAll xs + 1 := by rw [PyData.depth]
theorem dp_nil : PyData.depthAll [] = 0 := by simp [PyData.depthAll]
theorem dp_cons (x : PyData) (xs : List PyData) : PyData.depthAll (x :: xs) = max x.depth (PyData.depthAll xs) := by rw [PyData.depthAll]
theorem nodes_int (i : Int) : nodes (.int i) = 1 := rfl
theorem nodes_list (xs : List PyData) : nodes (.list xs) = nodess xs + 1 := by rw [nodes]
theorem nodes_tup (xs : List PyData) : nodes (.tuple xs) = nodess xs + 1 := by rw [nodes]
theorem nodes_nil : nodess [] = 0 := rfl
theorem nodes_cons (x : PyData) (xs : List PyData) : nodess (x :: xs) = nodes x + nodess xs := by rw [nodess]
theorem ib_list (k : Nat) (xs : List PyData) : ib k (.list xs) = ibs k xs := by rw [ib]
theorem ib_tup (k : Nat) (xs : List PyData) : ib k (.tuple xs) = ibs k xs := by rw [ib]
theorem ibs_nil (k : Nat) : ibs k [] = true := rfl
theorem ibs_cons (k : Nat) (x : PyData) (xs : List PyData) : ibs k (x :: xs) = (ib k x && ibs k xs) := by rw [ibs]
end DL
set_option Elab.async false
set_option linter.all false
set_option autoImplicit false
set_option maxRecDepth 100000
set_option maxHeartbeats 4000000
/-! DLx: the text of data with small dicts in tuples. -/
namespace DL
open PySem PySem.Spec PyProof.Rows L2
def dic0 : List (PyData × PyData) → Bool
  | [] => true
  | [(.int 0, .int 1)] => true
  | _ => false
mutual
/-- no list, no dict but {} and {0: 1} -/
def ibD : PyData → Bool
  | .none => true
  | .bool _ => true
  | .int i => decide (i.natAbs.log2 < 700)
  | .str x => PyData.strOk x && decide (10 * x.length + 4 ≤ 700)
  | .list _ => false
  | .tuple xs => ibDs xs
  | .dict ds => dic0 ds
def ibDs : List PyData → Bool
  | [] => true
  | x :: xs => ibD x && ibDs xs
end
theorem dic0_cases {ds : List (PyData × PyData)} (h : dic0 ds = true) : ds = [] ∨ ds = [(.int 0, .int 1)] := by
  unfold dic0 at h
  split at h
  · exact .inl rfl
  · exact .inr rfl
  · cases h
mutual
theorem shownD_len : ∀ x : PyData, ibD x = true → x.shown.length + 2 ≤ nodes x * 706
  | .none, _ => by
    show (("None" : String) : Str).length + 2 ≤ 1 * 706
    decide
  | .bool b, _ => by cases b <;> (show _ ≤ 1 * 706; decide)
  | .int i, h => shown_len 700 (by decide) (.int i) (by unfold ib; unfold ibD at h; exact h)
  | .str x, h => shown_len 700 (by decide) (.str x) (by unfold ib; unfold ibD at h; exact h)
  | .list xs, h => by unfold ibD at h; cases h
  | .tuple xs, h => by
    unfold ibD at h
    show (tupleText (PyData.shownAll xs)).length + 2 ≤ nodes (.tuple xs) * 706
    unfold nodes
    have h1 := shownDs_len xs h
    have h2 := tupleText_len (PyData.shownAll xs)
    rw [Nat.add_mul]
    omega
  | .dict ds, h => by
    unfold ibD at h
    rcases dic0_cases h with rfl | rfl
    · show (dictText (PyData.shownKv [])).length + 2 ≤ 1 * 706
      decide
    · show (dictText (PyData.shownKv [(.int 0, .int 1)])).length + 2 ≤ 1 * 706
      decide
theorem shownDs_len : ∀ xs : List PyData, ibDs xs = true → piled (PyData.shownAll xs) ≤ nodess xs * 706
  | [], _ => by show piled [] ≤ _; rw [piled_nil]; omega
  | x :: xs, h => by
    unfold ibDs at h
    rw [Bool.and_eq_true] at h
    show piled (x.shown :: PyData.shownAll xs) ≤ nodess (x :: xs) * 706
    rw [piled_cons]
    unfold nodess
    have h1 := shownD_len x h.1
    have h2 := shownDs_len xs h.2
    rw [Nat.add_mul]
    omega
end
mutual
theorem ibD_sh : ∀ x : PyData, ibD x = true → x.showable = true
  | .none, _ => by simp [PyData.showable]
  | .bool _, _ => by simp [PyData.showable]
  | .int i, h => by
    unfold ibD at h
    have h := of_decide_eq_true h
    unfold PyData.showable
    exact decide_eq_true (by omega)
  | .str _, _ => by simp [PyData.showable]
  | .list xs, h => by unfold ibD at h; cases h
  | .tuple xs, h => by unfold ibD at h; unfold PyData.showable; exact ibDs_sh xs h
  | .dict ds, h => by
    unfold ibD at h
    rcases dic0_cases h with rfl | rfl
    · simp [PyData.showable, PyData.showableKv]
    · simp [PyData.showable, PyData.showableKv]
      decide
theorem ibDs_sh : ∀ xs : List PyData, ibDs xs = true → PyData.showableAll xs = true
  | [], _ => by simp [PyData.showableAll]
  | x :: xs, h => by
    unfold ibDs at h
    rw [Bool.and_eq_true] at h
    unfold PyData.showableAll
    rw [ibD_sh x h.1, ibDs_sh xs h.2]
    rfl
end
section
variable {X : Cx} {pins : List (Addr × Obj)} {σ : L2.St} {H F : Hp} {s : Shared}
theorem dic_reads {a : Addr} {ds : List (PyData × PyData)} (I : Inv X pins σ H s) (h : (∃ kvs, Rd H a (.dK kvs) ∧ Rpk X.K F (dicK kvs) ds) ∨ ∃ kvs, Rd H a (.dT kvs) ∧ Rpk X.K F (dicT kvs) ds) (hd : dic0 ds = true) :
    ∃ as, Reads s.heap (.ref a) (.dict ds) as ∧ sysModules ∉ as := by
  have fin : ∀ {bs}, bs = [] → (a == sysModules) = false → sysModules ∉ a :: bs := fun e lo m => by
    subst e
    have : sysModules = a := by simpa using m
    rw [this] at lo
    simp at lo
  rcases dic0_cases hd with rfl | rfl
  · rcases h with ⟨kvs, hk, rk⟩ | ⟨kvs, hk, rk⟩
    · have e : kvs = [] := by cases kvs with
        | nil => rfl
        | cons => cases rk
      subst e
      obtain ⟨z, lo, vs, kv, o, es, ep, ho, hx, hdt, hks, hp, nd⟩ := dk_rd I.hok hk
      cases kv
      have e : es.toList = [] := by
        cases q : es.toList with
        | nil => rfl
        | cons a b => rw [q] at hp; cases hp
      exact ⟨_, .dict ho hx.1 hdt (by rw [e]; exact .nil) (by rw [e]; exact .nil), fin rfl lo⟩
    · have e : kvs = [] := by cases kvs with
        | nil => rfl
        | cons => cases rk
      subst e
      obtain ⟨z, lo, xs, r, o, es, ep, ho, hx, hdt, he, nd⟩ := (show ObjOk X.prog X.w H s.heap a (.dT []) from hk.ok I.hok)
      cases r
      have e : es.toList = [] := by rw [he]; rfl
      exact ⟨_, .dict ho hx.1 hdt (by rw [e]; exact .nil) (by rw [e]; exact .nil), fin rfl lo⟩
  · rcases h with ⟨kvs, hk, rk⟩ | ⟨kvs, hk, rk⟩
    · cases kvs with
      | nil => cases rk
      | cons q kvs =>
        obtain ⟨k, v⟩ := q
        have rk : Rpk X.K F ((keyD k, v) :: dicK kvs) [(.int 0, .int 1)] := rk
        cases k with
        | inr x => generalize hz : keyD (Sum.inr x) = z at rk; cases rk; cases hz
        | inl i =>
          generalize hz : keyD (Sum.inl i) = z at rk
          generalize hy : dicK kvs = ys at rk
          cases rk with
          | cons h t =>
            cases t
            cases h
            cases hz
            cases kvs with
            | cons => cases hy
            | nil =>
              obtain ⟨z, lo, vs, kv, o, es, ep, ho, hx, hdt, hks, hp, nd⟩ := dk_rd I.hok hk
              cases kv with
              | cons h t =>
                cases t
                rename_i p
                obtain ⟨k', u⟩ := p
                obtain ⟨h1, h2⟩ := h
                simp only at h1 h2
                subst h1
                obtain ⟨tk, rfl⟩ := h2
                cases q : es.toList with
                | nil => rw [q] at hp; cases hp
                | cons en rest =>
                  rw [q] at hp
                  cases hp with
                  | cons g1 g2 g3 =>
                    cases g3
                    obtain ⟨i, t, e1, e2⟩ | ⟨x, t, e1, e2⟩ := keyIs_shape (show keyIs (Sum.inl 0) en.key = true from g1)
                    · cases e1
                      exact ⟨_, .dict ho hx.1 hdt (by rw [q, List.map_cons, e2]; exact .cons (.int _ _) .nil) (by rw [q, List.map_cons, g2]; exact .cons (.int _ _) .nil), fin rfl lo⟩
                    · cases e1
    · cases kvs with
      | nil => cases rk
      | cons q kvs =>
        obtain ⟨k, v⟩ := q
        have rk : Rpk X.K F ((.tuple (k.map keyD), v) :: dicT kvs) [(.int 0, .int 1)] := rk
        cases rk
mutual
theorem rp_readsD (I : Inv X pins σ H s) (g : Sub F H) : ∀ {v : V} {d : PyData}, Rp X.K F v d → ibD d = true → ∀ {u : Value}, RelV v u → ∃ as, Reads s.heap u d as ∧ sysModules ∉ as
  | _, _, .non, _, u, r => by cases r; exact ⟨_, .none, by simp⟩
  | _, _, .bl b, _, u, r => by cases r; exact ⟨_, .bool b, by simp⟩
  | _, _, .int i, _, u, r => by obtain ⟨t, rfl⟩ := r; exact ⟨_, .int i t, by simp⟩
  | _, _, .str x, _, u, r => by obtain ⟨t, rfl⟩ := r; exact ⟨_, .str x t, by simp⟩
  | _, _, .lst _ _, h, u, r => by unfold ibD at h; cases h
  | _, _, .tup e t, h, u, r => by
    cases r
    unfold ibD at h
    obtain ⟨its, rv, ⟨o, ho, hcl, n, hdt⟩, hz⟩ := I.tuple (g.tup (SqT.of e))
    obtain ⟨as, q, m⟩ := rps_readsD I g t h rv
    exact ⟨as, .tuple ho hcl hdt (by simpa using q), m⟩
  | _, _, .dik e t, h, u, r => by
    cases r
    unfold ibD at h
    exact dic_reads I (.inl ⟨_, (by rcases g _ _ e with z | ⟨_, z⟩
                                    · exact .inl z
                                    · exact .inr z), t⟩) h
  | _, _, .dit e t, h, u, r => by
    cases r
    unfold ibD at h
    exact dic_reads I (.inr ⟨_, (by rcases g _ _ e with z | ⟨_, z⟩
                                    · exact .inl z
                                    · exact .inr z), t⟩) h
  | _, _, .fn _, h, u, r => by unfold ibD at h; cases h
theorem rps_readsD (I : Inv X pins σ H s) (g : Sub F H) : ∀ {vs : List V} {ds : List PyData}, Rps X.K F vs ds → ibDs ds = true → ∀ {us : List Value}, Vals vs us → ∃ as, ReadsAll s.heap us ds as ∧ sysModules ∉ as
  | _, _, .nil, _, us, r => by cases r; exact ⟨_, .nil, by simp⟩
  | _, _, .cons h t, hd, us, r => by
    cases r with
    | cons r1 r2 =>
      unfold ibDs at hd
      rw [Bool.and_eq_true] at hd
      obtain ⟨as, q1, m1⟩ := rp_readsD I g h hd.1 r1
      obtain ⟨bs, q2, m2⟩ := rps_readsD I g t hd.2 r2
      exact ⟨_, .cons q1 q2, fun m => by
        rcases List.mem_append.mp m with m | m
        · exact m1 m
        · exact m2 m⟩
end
theorem rdv_readsD {v : V} {d : PyData} {u : Value} (I : Inv X pins σ H s) (g : Sub F H) (h : Rdv X.K F H v d) (hd : ibD d = true) (r : RelV v u) : ∃ as, Reads s.heap u d as ∧ sysModules ∉ as := by
  rcases h with h | ⟨p, e, ob⟩
  · exact rp_readsD I g h hd r
  · subst e
    cases r
    cases d with
    | dict ds =>
      unfold ibD at hd
      obtain ⟨_, ⟨kvs, h1, h2⟩ | ⟨kvs, h1, h2⟩⟩ := ob
      · exact dic_reads I (.inl ⟨kvs, .inl h1, h2⟩) hd
      · exact dic_reads I (.inr ⟨kvs, .inl h1, h2⟩) hd
    | list xs => unfold ibD at hd; cases hd
    | none => exact ob.elim
    | bool _ => exact ob.elim
    | int _ => exact ob.elim
    | str _ => exact ob.elim
    | tuple _ => exact ob.elim
end
/-- what repr asks of such data -/
structure OkRD (x : PyData) : Prop where
  ib : ibD x = true
  dp : x.depth ≤ 64
  sz : nodes x * 706 ≤ 16777216
section
variable {X : Cx} {E : Ent} {e : Expr} {pos p : Pos} {ha : DTA} {K : PySem.W.Frag} {F H : Hp}
def rReprU (K : PySem.W.Frag) : List V → Hp → VK → Prop := fun vs H Q => (∃ v d, vs = [v] ∧ Dp K H v d ∧ OkR d ∧ Q (.str d.shown) H) ∨ ∃ v d F, vs = [v] ∧ Sub F H ∧ Rdv K F H v d ∧ OkRD d ∧ Q (.str d.shown) H
theorem call_reprU (hg : X.A.guards = some []) (hu : X.A.units + 66 < cLine) : CallR X (.builtin "repr") (rReprU X.K) := by
  intro pins s σ H vs us Q I rv h
  rcases h with h | ⟨v, d, F, rfl, g, hd, ok, q⟩
  · exact call_reprD hg hu pins s σ H vs us Q I rv h
  · cases rv with
    | cons r t =>
      cases t
      rename_i u
      obtain ⟨as, rr, hm⟩ := rdv_readsD I g hd ok.ib r
      have sh := ibD_sh d ok.ib
      have szz : d.shown.length ≤ sizeLine := by
        have := shownD_len d ok.ib
        have := ok.sz
        rw [sz_eq]
        omega
      have dp := ok.dp
      have fin : ∀ h' tk, (∀ b o, s.heap.get? b = some o → h'.get? b = some o) → ∀ t', EP X pins σ Q (.str d.shown t') { s with heap := h', toks := tk } := fun h' tk k t' => ⟨.str _, H, I.kept (t' := tk) k, ⟨_, rfl⟩, q⟩
      cases rr with
      | none => exact P.repr_of_none (fin s.heap _ (fun _ _ e => e) _)
      | bool b => exact P.repr_of_bool (fin s.heap _ (fun _ _ e => e) _)
      | int i t =>
        unfold PyData.showable at sh
        exact P.repr_of_int (of_decide_eq_true sh) (fin s.heap _ (fun _ _ e => e) _)
      | str x t => exact P.repr_of_str (fin s.heap _ (fun _ _ e => e) _) szz
      | list h1 h2 h3 h4 => exact repr_of_reads' (h₀ := s.heap) (.list h1 h2 h3 h4) sh (fun _ => hm) hg (by omega) (fun _ _ e => e) (fun h' u tk k => fin h' tk k u) szz
      | tuple h1 h2 h3 h4 => exact repr_of_reads' (h₀ := s.heap) (.tuple h1 h2 h3 h4) sh (fun _ => hm) hg (by omega) (fun _ _ e => e) (fun h' u tk k => fin h' tk k u) szz
      | dict h1 h2 h3 h4 h5 => exact repr_of_reads' (h₀ := s.heap) (.dict h1 h2 h3 h4 h5) sh (fun _ => hm) hg (by omega) (fun _ _ e => e) (fun h' u tk k => fin h' tk k u) szz
def bReprU : List PyData → PyData → Prop := fun as z => ∃ x, as = [x] ∧ (OkR x ∨ OkRD x) ∧ z = .str x.shown
theorem de_reprU (hgu : X.A.guards = some []) (hu : X.A.units + 66 < cLine) (hg : Gl X "repr") (hm : X.mg "repr" = none) (h : DA E X [e] ha) (he : starEach [e] X.env = (false, eval e X.env) :: starEach [] X.env := by rfl) (hpl : (backTo pos (starEach [] X.env)).any (·.1) = false := by rfl) :
    DE E X (.Call (.Name "repr" p) [e] [] pos) (dB bReprU ha) := by
  refine de_call (pe_callB (call_reprU hgu hu) hg hm (by decide +kernel) h (by decide) (by decide) he hpl) ?_
  intro F H vs xs z Q g rv ⟨x, e, ok, ez⟩ hy
  subst e ez
  cases rv with
  | cons rx t =>
    cases t
    rcases ok with ok | ok
    · exact .inl ⟨_, x, rfl, rx.dp g ok.nd, ok, hy.1 _ (.str _)⟩
    · exact .inr ⟨_, x, F, rfl, g, rx, ok, hy.1 _ (.str _)⟩
end
end DL
set_option Elab.async false
set_option linter.all false
set_option autoImplicit false
set_option maxRecDepth 100000
set_option maxHeartbeats 4000000
/-! DLy: == with an empty list or tuple, whatever the other one holds. -/
namespace DL
open PySem PySem.Spec PyProof.Rows L2
section
variable {X : Cx} {pins : List (Addr × Obj)} {σ : L2.St} {H F : Hp} {s : Shared} {K : PySem.W.Frag}
def rEq0 (K : PySem.W.Frag) (f : Bool → Bool) : R2 := fun x y H Q => ∃ a b xs, x = .ref a ∧ y = .ref b ∧ ((SqL K H a xs ∧ SqL K H b []) ∨ (SqT K H a xs ∧ SqT K H b [])) ∧ Q (.bl (f xs.isEmpty)) H
theorem op_ne0 (hu : X.A.units + 64 < cLine) : OpR X (compareOp .NotEq) (rEq0 X.K fun b => !b) := by
  intro pins s σ H x y v u Q I rx ry ⟨a, b, xs, ex, ey, hs, q⟩
  subst ex ey
  cases rx
  cases ry
  have room : X.A.units < cLine := by omega
  rcases hs with ⟨h1, h2⟩ | ⟨h1, h2⟩
  · obtain ⟨its, rv, pl, hz⟩ := I.list h1
    obtain ⟨its2, rv2, pl2, hz2⟩ := I.list h2
    cases rv2
    cases rv with
    | nil => exact SeqAt.RcNeAt.lists pl.isList pl2.isList rfl room (e := fun _ => true) (fun j j1 j2 => absurd j2 (Nat.not_lt_zero _)) X.prog X.w _ _ ⟨.bl _, H, I, rfl, q⟩
    | cons h t => exact SeqAt.RcNeAt.lists_lengths pl.isList pl2.isList (by simp) room X.prog X.w _ _ ⟨.bl _, H, I, rfl, q⟩
  · obtain ⟨its, rv, pl, hz⟩ := I.tuple h1
    obtain ⟨its2, rv2, pl2, hz2⟩ := I.tuple h2
    cases rv2
    have z := SeqAt.RcNeAt.tuples pl pl2 room (fun j j1 j2 => absurd j2 (Nat.not_lt_zero _)) (e := fun _ => false)
    cases rv with
    | nil => exact z X.prog X.w _ _ ⟨.bl _, H, I, rfl, q⟩
    | cons h t => exact z X.prog X.w _ _ ⟨.bl _, H, I, rfl, by simpa using q⟩
theorem op_eq0 (hu : X.A.units + 64 < cLine) : OpR X (compareOp .Eq) (rEq0 X.K fun b => b) := by
  intro pins s σ H x y v u Q I rx ry ⟨a, b, xs, ex, ey, hs, q⟩
  subst ex ey
  cases rx
  cases ry
  have room : X.A.units < cLine := by omega
  rcases hs with ⟨h1, h2⟩ | ⟨h1, h2⟩
  · obtain ⟨its, rv, pl, hz⟩ := I.list h1
    obtain ⟨its2, rv2, pl2, hz2⟩ := I.list h2
    cases rv2
    cases rv with
    | nil => exact SeqAt.RcAt.lists pl.isList pl2.isList rfl room (e := fun _ => true) (fun j j1 j2 => absurd j2 (Nat.not_lt_zero _)) X.prog X.w _ _ ⟨.bl _, H, I, rfl, q⟩
    | cons h t => exact SeqAt.RcAt.lists_lengths pl.isList pl2.isList (by simp) room X.prog X.w _ _ ⟨.bl _, H, I, rfl, q⟩
  · obtain ⟨its, rv, pl, hz⟩ := I.tuple h1
    obtain ⟨its2, rv2, pl2, hz2⟩ := I.tuple h2
    cases rv2
    have z := SeqAt.RcAt.tuples pl pl2 room (fun j j1 j2 => absurd j2 (Nat.not_lt_zero _)) (e := fun _ => false)
    cases rv with
    | nil => exact z X.prog X.w _ _ ⟨.bl _, H, I, rfl, q⟩
    | cons h t => exact z X.prog X.w _ _ ⟨.bl _, H, I, rfl, by simpa using q⟩
def bNe0 (x y z : PyData) : Prop := (∃ xs, x = .list xs ∧ y = .list [] ∧ z = .bool (!xs.isEmpty)) ∨ ∃ xs, x = .tuple xs ∧ y = .tuple [] ∧ z = .bool (!xs.isEmpty)
theorem opB_ne0 : OpB K (rEq0 K fun b => !b) bNe0 := by
  rintro F H v w x y z Q g h1 h2 hb hy
  have em : ∀ {vs : List V} {ds : List PyData}, Rps K F vs ds → vs.isEmpty = ds.isEmpty := fun h => by cases h <;> rfl
  rcases hb with ⟨xs, rfl, rfl, rfl⟩ | ⟨xs, rfl, rfl, rfl⟩
  · obtain ⟨a, vs, ea, s1, r1⟩ := h1.seq g
    obtain ⟨b, ws, eb, s2, r2⟩ := h2.seq g
    cases r2
    refine ⟨a, b, vs, ea, eb, .inl ⟨s1, s2⟩, ?_⟩
    rw [em r1]
    exact hy.1 _ (.bl _)
  · obtain ⟨a, vs, ea, s1, r1⟩ := h1.tup g
    obtain ⟨b, ws, eb, s2, r2⟩ := h2.tup g
    cases r2
    refine ⟨a, b, vs, ea, eb, .inr ⟨s1, s2⟩, ?_⟩
    rw [em r1]
    exact hy.1 _ (.bl _)
def bEq0 (x y z : PyData) : Prop := (∃ xs, x = .list xs ∧ y = .list [] ∧ z = .bool (xs.isEmpty)) ∨ ∃ xs, x = .tuple xs ∧ y = .tuple [] ∧ z = .bool (xs.isEmpty)
theorem opB_eq0 : OpB K (rEq0 K fun b => b) bEq0 := by
  rintro F H v w x y z Q g h1 h2 hb hy
  have em : ∀ {vs : List V} {ds : List PyData}, Rps K F vs ds → vs.isEmpty = ds.isEmpty := fun h => by cases h <;> rfl
  rcases hb with ⟨xs, rfl, rfl, rfl⟩ | ⟨xs, rfl, rfl, rfl⟩
  · obtain ⟨a, vs, ea, s1, r1⟩ := h1.seq g
    obtain ⟨b, ws, eb, s2, r2⟩ := h2.seq g
    cases r2
    refine ⟨a, b, vs, ea, eb, .inl ⟨s1, s2⟩, ?_⟩
    rw [em r1]
    exact hy.1 _ (.bl _)
  · obtain ⟨a, vs, ea, s1, r1⟩ := h1.tup g
    obtain ⟨b, ws, eb, s2, r2⟩ := h2.tup g
    cases r2
    refine ⟨a, b, vs, ea, eb, .inr ⟨s1, s2⟩, ?_⟩
    rw [em r1]
    exact hy.1 _ (.bl _)
end
end DL
set_option Elab.async false
set_option linter.all false
set_option autoImplicit false
set_option maxRecDepth 100000
set_option maxHeartbeats 4000000
/-! DLp: the data layer, part sixteen: slices, lists and tuples turned about, tuples told again. -/
namespace DL
open PySem PySem.Spec PyProof.Rows L2 HT
section
variable {prog : Program} {w : World} {A : Around} {E : Value → Shared → Prop} {s : Shared}
theorem adjust_back (n : Nat) : Builtin.Slice.sliceAdjust none none (-1) (n : Int) = ((n : Int) - 1, -1) := by
  unfold Builtin.Slice.sliceAdjust
  simp
theorem places_back (n : Nat) : Builtin.Slice.slicePlaces ((n : Int) - 1) (-1) (-1) = n := by
  unfold Builtin.Slice.slicePlaces
  simp
  omega
theorem sliceApplied_back {sl : Addr} {vl vu vs : Value} {n : Nat} {Q : Int × Int × Nat → Shared → Prop} (hs : s.heap.IsSliceOf sl vl vu vs) (pl : IsPart vl none) (pu : IsPart vu none) (ps : IsPart vs (some (-1)))
    (h : Q ((n : Int) - 1, -1, n) s) : wpAny (model prog w) A (Builtin.Slice.sliceApplied (.ref sl) (pure (n : Int))) Q E s := by
  obtain ⟨os, hos, hcs, hds⟩ := id hs
  unfold Builtin.Slice.sliceApplied Builtin.Slice.sliceFields
  refine wpAny_bind (wpAny_bind (wpAny_field hos hds (x := vl) rfl (wpAny_bind (wpAny_field hos hds (x := vu) rfl (wpAny_bind (wpAny_field hos hds (x := vs) rfl (wpAny_pure ?_)))))))
  refine wpAny_bind (slicePart_ ps ?_)
  show wpAny _ _ (if ((-1 : Int) == 0) = true then _ else _) _ _ s
  rw [if_neg (by decide)]
  refine wpAny_bind (slicePart_ pl (wpAny_bind (slicePart_ pu (wpAny_bind (wpAny_pure ?_)))))
  show wpAny _ _ (match Builtin.Slice.sliceAdjust none none (-1) (n : Int) with | (lo, hi) => pure (lo, (-1 : Int), Builtin.Slice.slicePlaces lo hi (-1))) _ _ s
  rw [adjust_back n]
  show wpAny _ _ (pure ((n : Int) - 1, (-1 : Int), Builtin.Slice.slicePlaces ((n : Int) - 1) (-1) (-1))) _ _ s
  rw [places_back]
  exact wpAny_pure h
theorem fm_some {α β : Type} {f : α → Option β} {g : α → β} : ∀ {l : List α}, (∀ m ∈ l, f m = some (g m)) → l.filterMap f = l.map g
  | [], _ => rfl
  | x :: xs, h => by
    rw [List.filterMap_cons, h x List.mem_cons_self, List.map_cons, fm_some fun m hm => h m (List.mem_cons_of_mem _ hm)]
theorem pick_back (xs : Array Value) : ((List.range xs.size).filterMap fun (m : Nat) => xs[((xs.size : Int) - 1 + (m : Int) * -1).toNat]?).toArray = xs.toList.reverse.toArray := by
  congr 1
  have e := fm_some (l := List.range xs.size) (f := fun (m : Nat) => xs[((xs.size : Int) - 1 + (m : Int) * -1).toNat]?) (g := fun m => xs.toList.getD (xs.size - 1 - m) .none) fun m hm => by
    have hm := List.mem_range.mp hm
    have e2 : ((xs.size : Int) - 1 + (m : Int) * -1).toNat = xs.size - 1 - m := by omega
    show xs[((xs.size : Int) - 1 + (m : Int) * -1).toNat]? = _
    rw [e2]
    have hl : xs.size - 1 - m < xs.size := by omega
    simp [hl]
  rw [e]
  apply List.ext_getElem?
  intro i
  rw [List.getElem?_map]
  by_cases hi : i < xs.size
  · rw [List.getElem?_range hi, List.getElem?_reverse (by simpa using hi)]
    have hl : xs.size - 1 - i < xs.size := by omega
    simp [hl]
  · rw [List.getElem?_eq_none (by simp; omega), List.getElem?_eq_none (by simp; omega)]
    rfl
theorem getItem_tuple_back {t sl : Addr} {items : Array Value} {vl vu vs : Value} {Q : Value → Shared → Prop} (ht : IsTup s.heap t items) (hs : s.heap.IsSliceOf sl vl vu vs) (pl : IsPart vl none) (pu : IsPart vu none) (ps : IsPart vs (some (-1)))
    (h : Q (.ref s.heap.objs.size) { s with heap := s.heap.push { cls := .type "tuple", data := .seq items.toList.reverse.toArray } })
    (hsz : items.size ≤ sizeLine) : wpAny (model prog w) A (getItem (.ref t) (.ref sl)) Q E s := by
  have htake : sizeOk (.seq items.toList.reverse.toArray) := by
    show items.toList.reverse.toArray.size ≤ sizeLine
    rw [List.size_toArray, List.length_reverse, Array.length_toList]
    exact hsz
  obtain ⟨os, hos, hcs, hds⟩ := id hs
  have hTs : s.TypeIs (.ref sl) "slice" := ⟨os, hos, hcs⟩
  unfold getItem
  try with_reducible refine wpAny_holding ?_
  first | refine wpAny_bind (wpAny_pure ?_) | skip
  refine wpAny_bind (wpAny_sequenceKey ht.typeIs (by decide) ?_)
  refine wpAny_bind (wpAny_callSpecial?_slot (name := Str.ofString "__getitem__") ht.typeIs PyProof.Rows.slot_tuple_getitem
    (wpAny_call_entry PyProof.Rows.slot_tuple_getitem ht.typeIs entry_tuple_getitem ?_ (args_tuple_getitem _ _)))
  show wpAny _ _ (Builtin.Tuple.tupleItemsOf (.ref t) >>= _) _ _ s
  refine wpAny_bind (tupleItemsOf_ ht ?_)
  refine wpAny_bind (wpAny_typeOf hTs ?_)
  rw [if_pos (by decide)]
  refine wpAny_bind (sliceApplied_back hs pl pu ps ?_)
  have hno : ¬ ((((items.size : Int) - 1) == 0 && (-1 : Int) == 1 && items.size == items.size) = true) := by
    intro q
    rw [Bool.and_eq_true, Bool.and_eq_true] at q
    exact absurd q.1.2 (by decide)
  show wpAny _ _ (if (((items.size : Int) - 1) == 0 && (-1 : Int) == 1 && items.size == items.size) = true then _ else _) _ _ s
  rw [if_neg hno, pick_back]
  first
    | exact wpAny_bind (m := Builtin.Tuple.tupleExact _) (wpAny_newObj_type (wpAny_pure ⟨_, rfl, wpAny_pure h⟩) htake)
    | exact wpAny_bind (m := Builtin.Tuple.tupleExact _) (wpAny_newObj_type (wpAny_bind (wpAny_pure (wpAny_pure ⟨_, rfl, wpAny_pure h⟩))) htake)
    | exact wpAny_bind (wpAny_bind (m := Builtin.Tuple.tupleExact _) (wpAny_newObj_type (wpAny_pure (wpAny_pure ⟨_, rfl, wpAny_pure h⟩)) htake))
    | exact wpAny_bind (wpAny_bind (m := Builtin.Tuple.tupleExact _) (wpAny_newObj_type (wpAny_pure ⟨_, rfl, wpAny_pure h⟩) htake))
end
section
variable {X : Cx} {e : Expr} {te : TE} {k : Nat} {p1 p2 p3 pos : Pos}
/-- xs[::-1] of a list or a tuple -/
def tRevU (K : PySem.W.Frag) (te : TE) : TE := fun σ H Q => te σ H fun x H1 => ∃ a xs, x = .ref a ∧ ((SqL K H1 a xs ∧ ∀ p, H1 p = none → Q (.ref p) (upd H1 p (.lst xs.reverse))) ∨ (SqT K H1 a xs ∧ ∀ p, H1 p = none → Q (.ref p) (upd H1 p (.tup xs.reverse))))
theorem pe_revU (he : PE X e te) : PE X (.Subscript e (.Slice none none (some (.UnaryOp .USub (.Constant (.int 1) k p1) p2)) p3) pos) (tRevU X.K te) := by
  refine ⟨fun pins s σ H Q I h => ?_⟩
  refine Subscript_ (thn (he.run pins s σ H _ I h) fun v s1 ⟨x, H1, I1, r1, q1⟩ => ?_)
  obtain ⟨a, xs, ex, q⟩ := q1
  subst ex
  cases r1
  have hst : PO X (some (.UnaryOp .USub (.Constant (.int 1) k p1) p2)) (tPart (tUn (rU fun i => .int (-i)) (tC (.int 1)))) := po_some (pe_un un_neg pe_int)
  refine wpAny_Slice (thn (po_none.run pins s1 σ H1 (fun o H2 => o = none ∧ H2 = H1) I1 ⟨rfl, rfl⟩) fun vl s2 ⟨l, H2, I2, pl, el, e2⟩ => ?_)
  subst el e2
  refine thn (po_none.run pins s2 σ H2 (fun o H3 => o = none ∧ H3 = H2) I2 ⟨rfl, rfl⟩) fun vu s3 ⟨u, H3, I3, pu, eu, e3⟩ => ?_
  subst eu e3
  refine thn (hst.run pins s3 σ H3 (fun o H4 => o = some (-1) ∧ H4 = H3) I3 ⟨1, rfl, -1, rfl, rfl, rfl⟩) fun vs s4 ⟨o, H4, I4, ps, eo, e4⟩ => ?_
  subst eo e4
  have I5 : Inv X pins σ H4 { s4 with heap := s4.heap.push { cls := .type "slice", data := .fields #[vl, vu, vs] } } := I4.kept (t' := s4.toks) fun b ob q => Heap.get?_push_of_some _ q
  show wpAny (model X.prog X.w) X.A (subscriptTail e (.Slice none none (some (.UnaryOp .USub (.Constant (.int 1) k p1) p2)) p3) (.ref a) (.ref s4.heap.objs.size)) (EP X pins σ Q) X.xe { s4 with heap := s4.heap.push { cls := .type "slice", data := .fields #[vl, vu, vs] } }
  rcases q with ⟨hx, q⟩ | ⟨hx, q⟩
  · obtain ⟨its, r, ht, hz⟩ := I5.list hx
    have hlen := r.length
    refine tail_any (ops := [.ref a, .ref s4.heap.objs.size]) ht.isList.typeIs (PySem.slot_list_getitem.lookup) ?_ (by with_unfolding_all rfl)
    refine wpAny_getItem_list_slice ht.isList (Heap.IsSliceOf.new _ vl vu vs) pl pu ps (by decide) ?_ (by rw [List.size_toArray]; omega)
    rw [PySem.W.krv_pick]
    refine ⟨.ref _, _, I5.laid (t' := s4.toks) (o := .lst xs.reverse) (fun b ob q => Heap.get?_push_of_some _ q) (Nat.le_refl _) ?_, rfl, q _ (I5.hok.fresh (Nat.le_refl _))⟩
    exact ⟨by rw [List.length_reverse]; exact hz, _, 0, r.reverse, Heap.get?_push_size _ rfl⟩
  · obtain ⟨its, r, ht, hz⟩ := I5.tuple hx
    have hlen := r.length
    refine tail_any (ops := [.ref a, .ref s4.heap.objs.size]) ht.typeIs (PyProof.Rows.slot_tuple_getitem.lookup) ?_ (by with_unfolding_all rfl)
    refine getItem_tuple_back ht (Heap.IsSliceOf.new _ vl vu vs) pl pu ps ?_ (by rw [List.size_toArray]; omega)
    refine ⟨.ref _, _, I5.laid (t' := s4.toks) (o := .tup xs.reverse) (fun b ob q => Heap.get?_push_of_some _ q) (Nat.le_refl _) ?_, rfl, q _ (I5.hok.fresh (Nat.le_refl _))⟩
    exact ⟨by rw [List.length_reverse]; exact hz, _, r.reverse, IsTup.new _ _⟩
end

/-! ### over data -/
section
variable {X : Cx} {E : Ent} {e a b : Expr} {pos p2 : Pos} {fa fb : DT} {K : PySem.W.Frag} {F H : Hp} {st : St} {r : DEnv}
def cutD (xs : List PyData) (lo hi : Option Int) : List PyData := (xs.drop (HT.sIx xs.length 0 lo)).take (HT.sIx xs.length xs.length hi - HT.sIx xs.length 0 lo)
/-- what an operation may hand back: data, or a new list -/
def bSl (x : PyData) (lo hi : Option Int) (w : Vl) : Prop := match x with
  | .list xs => w = .n (.list (cutD xs lo hi))
  | .tuple xs => w = .d (.tuple (cutD xs lo hi))
  | .str z => z.length ≤ sizeLine ∧ w = .d (.str (Txt.slice z lo hi))
  | _ => False
abbrev DTO := DEnv → (Option Int → DEnv → Prop) → Prop
def tDO (K : PySem.W.Frag) (E : Ent) (f : DTO) : TO := fun st H Q => ∃ F r P, Rel K E F H st r ∧ f r P ∧ ∀ o r' F' H', P o r' → Aft K E F H st r F' H' r' → Q o H'
abbrev DO (E : Ent) (X : Cx) (e : Option Expr) (f : DTO) : Prop := PO X e (tDO X.K E f)
def pNone (r : DEnv) (P : Option Int → DEnv → Prop) : Prop := P none r
def pSome (fa : DT) (r : DEnv) (P : Option Int → DEnv → Prop) : Prop := fa r fun s r1 => ∃ i, s = .d (.int i) ∧ P (some i) r1
theorem wkO {e : Option Expr} {t t' : TO} (h : PO X e t) (k : ∀ st H Q, t' st H Q → t st H Q) : PO X e t' := ⟨fun pins s st H Q I q => h.run pins s st H Q I (k _ _ _ q)⟩
theorem dpo_none : DO E X none pNone := wkO po_none fun st H Q ⟨F, r, P, R, p, k⟩ => k _ _ _ _ p (.refl R)
theorem dpo_some (ha : DE E X a fa) : DO E X (some a) (pSome fa) := wkO (po_some ha) fun st H Q ⟨F, r, P, R, p, k⟩ =>
  ⟨F, r, _, R, p, fun s r1 v F1 H1 ⟨i, e, q⟩ A1 ok n => by
    subst e
    have ok : Rp X.K F1 v (.int i) := ok
    cases ok
    exact ⟨i, rfl, k _ _ _ _ q A1⟩⟩
def dSlice (fa : DT) (lo hi : DTO) (r : DEnv) (P : Vl → DEnv → Prop) : Prop := fa r fun s r1 => lo r1 fun l r2 => hi r2 fun h r3 => ∃ x w, rd r3 s = some x ∧ bSl x l h w ∧ P w r3
theorem rps_cut {vs : List V} {xs : List PyData} (h : Rps K F vs xs) (lo hi : Option Int) : Rps K F (cutV vs lo hi) (cutD xs lo hi) := by
  have hl := rps_len h
  unfold cutV cutD
  rw [hl]
  exact rps_take _ (rps_drop _ h)
theorem Rdv.tupR {v : V} {xs : List PyData} (h : Rdv K F H v (.tuple xs)) : Rp K F v (.tuple xs) := by
  rcases h with h | ⟨p, rfl, z⟩
  · exact h
  · exact z.elim
theorem de_slice {lo hi : Option Expr} {fl fh : DTO} (ha : DE E X a fa) (hl : DO E X lo fl) (hh : DO E X hi fh) : DE E X (.Subscript a (.Slice lo hi none p2) pos) (dSlice fa fl fh) := by
  refine wkE (pe_slice (SlR.or (SlR.or sl_list sl_tupA) C8.sl_txt) ha hl hh) fun st H Q ⟨F, r, P, R, p, k⟩ => ?_
  refine ⟨F, r, _, R, p, fun s r1 v F1 H1 q1 A1 ok1 n1 => ⟨F1, r1, _, A1.rel, q1, fun l r2 F2 H2 q2 A2 => ⟨F2, r2, _, A2.rel, q2, fun h r3 F3 H3 q3 A3 => ?_⟩⟩⟩
  obtain ⟨x, w, e1, hb, q⟩ := q3
  have rv := A3.rel.read ((ok1.aft A2).aft A3) e1
  have A := (A1.trans A2).trans A3
  unfold bSl at hb
  split at hb
  · rename_i xs
    subst hb
    obtain ⟨p, vs, rfl, g1, g2⟩ := rv.seq A3.rel.sub
    exact .inl (.inl ⟨p, vs, rfl, g1, fun p' n => yldL_of A q k p' _ n (rps_cut g2 l h)⟩)
  · rename_i xs
    subst hb
    obtain ⟨p, vs, rfl, g1, g2⟩ := rv.tup A3.rel.sub
    have hl := rps_len g2
    refine .inl (.inr ⟨p, vs, rfl, g1, fun hw => ?_, fun hw p' n => ?_⟩)
    · refine (yld_of A q k).1 _ ?_
      have : cutD xs l h = xs := by
        unfold cutD
        rw [hl] at hw
        rw [hw.1, hw.2]
        simp
      rw [this]
      exact rv.tupR
    · exact (yld_of A q k).2 _ _ _ n (.tup upd_same (rpsM (same_upd (A3.rel.sub.free n)) (rps_cut g2 l h)))
  · rename_i z
    obtain ⟨hz, rfl⟩ := hb
    have := rv.str
    subst this
    exact .inr ⟨z, rfl, hz, (yld_of A q k).1 _ (.str _)⟩
  · exact hb.elim
theorem rps_rev : ∀ {vs : List V} {xs : List PyData}, Rps K F vs xs → Rps K F vs.reverse xs.reverse
  | _, _, .nil => .nil
  | _, _, .cons h t => by
    rw [List.reverse_cons, List.reverse_cons]
    exact rps_app (rps_rev t) (.cons h .nil)
/-- xs[::-1] -/
def bRev (x : PyData) (w : Vl) : Prop := match x with
  | .list xs => w = .n (.list xs.reverse)
  | .tuple xs => w = .d (.tuple xs.reverse)
  | _ => False
def dRev (fa : DT) (r : DEnv) (P : Vl → DEnv → Prop) : Prop := fa r fun s r1 => ∃ x w, rd r1 s = some x ∧ bRev x w ∧ P w r1
theorem de_rev {k : Nat} {p1 p2 p3 : Pos} (ha : DE E X a fa) : DE E X (.Subscript a (.Slice none none (some (.UnaryOp .USub (.Constant (.int 1) k p1) p2)) p3) pos) (dRev fa) := by
  refine wkE (pe_revU ha) fun st H Q ⟨F, r, P, R, p, k⟩ => ?_
  refine ⟨F, r, _, R, p, fun s r1 v F1 H1 q1 A1 ok1 n1 => ?_⟩
  obtain ⟨x, w, e1, hb, q⟩ := q1
  have rv := A1.rel.read ok1 e1
  unfold bRev at hb
  split at hb
  · rename_i xs
    subst hb
    obtain ⟨p, vs, rfl, g1, g2⟩ := rv.seq A1.rel.sub
    exact ⟨p, vs, rfl, .inl ⟨g1, fun p' n => yldL_of A1 q k p' _ n (rps_rev g2)⟩⟩
  · rename_i xs
    subst hb
    obtain ⟨p, vs, rfl, g1, g2⟩ := rv.tup A1.rel.sub
    exact ⟨p, vs, rfl, .inr ⟨g1, fun p' n => (yld_of A1 q k).2 _ _ _ n (.tup upd_same (rpsM (same_upd (A1.rel.sub.free n)) (rps_rev g2)))⟩⟩
  · exact hb.elim
/-- t * k -/
def bRepT (x y z : PyData) : Prop := ∃ xs k, x = .tuple xs ∧ y = .int k ∧ xs ≠ [] ∧ 2 ≤ k ∧ k ≤ 1000 ∧ xs.length ≤ 1000 ∧ z = .tuple (List.replicate k.toNat xs).flatten
theorem opB_repT : OpB K (rRepT K) bRepT := by
  intro F H v w x y z Q g h1 h2 ⟨xs, k, e1, e2, hne, k0, k1, hl, e3⟩ hy
  subst e1 e2 e3
  obtain ⟨p, vs, rfl, g1, g2⟩ := h1.tup g
  have hlen := rps_len g2
  exact ⟨p, k, vs, rfl, h2.int, g1, fun e => hne (by rw [e] at hlen; exact List.length_eq_zero_iff.mp hlen.symm), k0, k1, by omega, fun p' n => hy.2 _ _ _ n (.tup upd_same (rpsM (same_upd (g.free n)) (rps_flat g2 _)))⟩
theorem de_repT (ha : DE E X a fa) (hb : DE E X b fb) : DE E X (.BinOp a .Mult b pos) (dOp bRepT fa fb) := de_op op_repT opB_repT ha hb
/-- [x] * k -/
def dRep (fa fb : DT) (r : DEnv) (P : Vl → DEnv → Prop) : Prop := fa r fun s r1 => ∃ xs, s = .n (.list xs) ∧ fb r1 fun t r2 => ∃ k, rd r2 t = some (.int k) ∧ -(2 ^ 63) ≤ k ∧ k < 2 ^ 63 ∧ xs.length * k.toNat ≤ sizeLine ∧ P (.n (.list (List.replicate k.toNat xs).flatten)) r2
theorem de_rep (ha : DE E X a fa) (hb : DE E X b fb) : DE E X (.BinOp a .Mult b pos) (dRep fa fb) := by
  refine wkE (pe_op op_rep ha hb) fun st H Q ⟨F, r, P, R, p, k⟩ => ?_
  refine ⟨F, r, _, R, p, fun s r1 v F1 H1 q1 A1 ok1 n1 => ?_⟩
  obtain ⟨xs, es, q1⟩ := q1
  subst es
  refine ⟨F1, r1, _, A1.rel, q1, fun t r2 w F2 H2 q2 A2 ok2 n2 => ?_⟩
  obtain ⟨m, e2, m0, m1, hz, q⟩ := q2
  obtain ⟨p, rfl, ⟨vs, g0, g1, g2⟩, _⟩ := ok1.aft A2
  have hl := rps_len g2
  exact ⟨p, m, vs, rfl, (A2.rel.read ok2 e2).int, g1, m0, m1, by rw [hl]; exact hz, fun p' n => yldL_of (A1.trans A2) q k p' _ n (rps_flat g2 _)⟩
end
section
variable {X : Cx} {E : Ent} {pos : Pos}
theorem ds_par3 {i j l : Nat} {tg vl : Expr} {ha : DTA} (h : PS X (.Assign [tg] vl pos) (tPar3 i j l (tDM X.K E ha))) : DS E X (.Assign [tg] vl pos) (sPar [i, j, l] ha) := by
  refine wkS h fun D st H ⟨F, r, P, R, p, k⟩ => ⟨F, r, _, R, p, fun ss r1 vs F1 H1 q1 A1 ok n nd => ?_⟩
  obtain ⟨nv, hl, q⟩ := q1
  have lv : vs.length = 3 := by rw [paired_len ok]; exact hl
  match vs, lv with
  | [v, w, u], _ => exact ⟨v, w, u, rfl, par_fin R A1 ok n nd nv q k⟩
end
end DL
set_option Elab.async false
set_option linter.all false
set_option autoImplicit false
set_option maxRecDepth 100000
set_option maxHeartbeats 4000000
/-! DLq: the data layer, part seventeen: zip of a list or tuple with a list or tuple. The flag tells which: true for a list. -/
namespace DL
open PySem PySem.Spec PyProof.Rows L2
open PySem.Sem (wp)
/-- a sequence of the kind -/
def SqB (K : PySem.W.Frag) : Bool → Hp → Addr → List V → Prop
  | true => SqL K
  | false => SqT K
def inB2 : Bool → Heap → Addr → Array Value → Prop
  | true => fun h a us => h.IsList a us
  | false => fun h a us => h.IsTuple a us
def itB2 : Bool → Heap → Addr → Addr → Nat → Prop
  | true => fun h p a i => h.IsListIter p a i
  | false => fun h p a i => h.IsTupleIter p a i
def nmB : Bool → String
  | true => "list_iterator"
  | false => "tuple_iterator"
theorem SqB.have {X : Cx} {pins : List (Addr × Obj)} {σ : L2.St} {H : Hp} {s : Shared} {a : Addr} {xs : List V} (I : Inv X pins σ H s) : ∀ {k : Bool}, SqB X.K k H a xs → ∃ us : List Value, Vals xs us ∧ inB2 k s.heap a us.toArray
  | true, h => let ⟨us, r, p, _⟩ := I.list h; ⟨us, r, p.isList⟩
  | false, h => let ⟨us, r, p, _⟩ := I.tuple h; ⟨us, r, p⟩
theorem SqB.same {X : Cx} {pins : List (Addr × Obj)} {σ : L2.St} {H : Hp} {s : Shared} {a : Addr} {xs ys : List V} (I : Inv X pins σ H s) : ∀ {k : Bool}, SqB X.K k H a xs → SqB X.K k H a ys → xs = ys
  | true, h, h2 => I.list_inj h h2
  | false, h, h2 => I.tuple_inj h h2
theorem inB2.lt {h : Heap} {a : Addr} {us : Array Value} : ∀ {k : Bool}, inB2 k h a us → a < h.objs.size
  | true, ⟨_, e, _⟩ => Heap.lt_size e
  | false, ⟨_, e, _⟩ => Heap.lt_size e
theorem itB2.obj {h : Heap} {p a : Addr} {i : Nat} : ∀ {k : Bool}, itB2 k h p a i → ∃ o, h.get? p = some o ∧ o.data = .fields #[.ref a, .int i 0]
  | true, ⟨o, e, _, d⟩ => ⟨o, e, d⟩
  | false, ⟨o, e, _, d⟩ => ⟨o, e, d⟩
theorem itB2.go {h g : Heap} {p a : Addr} {i : Nat} : ∀ {k : Bool}, itB2 k h p a i → (∀ o, h.get? p = some o → g.get? p = some o) → itB2 k g p a i
  | true, st, f => Heap.IsListIter.at st f
  | false, st, f => Heap.IsTupleIter.at st f
theorem inB2.push {h : Heap} {a : Addr} {us : Array Value} (o : Obj) : ∀ {k : Bool}, inB2 k h a us → inB2 k (h.push o) a us
  | true, e => Heap.IsList.push e o
  | false, e => Heap.IsTuple.push e o
theorem itB2.mk {h : Heap} {p a : Addr} : ∀ {k : Bool}, h.get? p = some { cls := .type (nmB k), data := .fields #[.ref a, .int 0 0] } → itB2 k h p a 0
  | true, e => ⟨_, e, rfl, rfl⟩
  | false, e => ⟨_, e, rfl, rfl⟩
/-- what it draws -/
theorem drawsB {prog : Program} {w : World} {A : Around} (hh : A.handled = none) (p a : Addr) (ne : a ≠ p) (us : Array Value) : ∀ k : Bool, Draws prog w A p [p, a] us.size (fun i v => us[i]? = some v) (fun i h => itB2 k h p a i ∧ inB2 k h a us)
  | true => Draws.list hh p a ne us
  | false => Draws.tuple hh p a ne us
/-- the two as they stand at each turn, an item of each in a new pair -/
def ItzB (K : PySem.W.Frag) (k l : Bool) (a b : Addr) : It where
  go i H := ∃ xs ys x y, SqB K k H a xs ∧ SqB K l H b ys ∧ xs[i]? = some x ∧ ys[i]? = some y
  yld i H v G := ∃ T x y, v = .ref T ∧ H T = none ∧ G = upd H T (.tup [x, y]) ∧ (∀ xs, SqB K k H a xs → xs[i]? = some x) ∧ ∀ ys, SqB K l H b ys → ys[i]? = some y
  stop i H := ∃ xs ys, SqB K k H a xs ∧ SqB K l H b ys ∧ i = min xs.length ys.length
/-- the cells lie apart -/
theorem sepB {z TI TO p q a b : Addr} (D : ZipApart z TI TO p q a b) : ZipSep2 z TI TO p q [p, a] [q, b] where
  TIz := D.TIz
  TOz := D.TOz
  TITO := D.TITO
  TIi1 := D.TIi1
  mem1 := .head _
  zf1 := fun e => by
    rcases List.mem_cons.mp e with e | e
    · exact D.i1z e.symm
    · exact D.l1z (List.mem_singleton.mp e).symm
  Tf1 := fun e => by
    rcases List.mem_cons.mp e with e | e
    · exact D.TOi1 e
    · exact D.l1TO (List.mem_singleton.mp e).symm
  TIi2 := D.TIi2
  mem2 := .head _
  zf2 := fun e => by
    rcases List.mem_cons.mp e with e | e
    · exact D.i2z e.symm
    · exact D.l2z (List.mem_singleton.mp e).symm
  Tf2 := fun e => by
    rcases List.mem_cons.mp e with e | e
    · exact D.TOi2 e
    · exact D.l2TO (List.mem_singleton.mp e).symm
  sep1_2 := fun e => by
    rcases List.mem_cons.mp e with e | e
    · exact D.i12 e
    · exact D.l2i1 (List.mem_singleton.mp e).symm
  sep2_1 := fun e => by
    rcases List.mem_cons.mp e with e | e
    · exact D.i12 e.symm
    · exact D.l1i2 (List.mem_singleton.mp e).symm
theorem five {c z TI TO p q : Addr} (h : c ∈ [z, TI, TO, p, q]) : c = z ∨ c = TI ∨ c = TO ∨ c = p ∨ c = q := by simpa using h
theorem notFive {c z TI TO p q : Addr} (h : c ∉ [z, TI, TO, p, q]) : c ≠ z ∧ c ≠ TO ∧ c ≠ p ∧ c ≠ q :=
  ⟨fun e => h (by simp [e]), fun e => h (by simp [e]), fun e => h (by simp [e]), fun e => h (by simp [e])⟩
theorem turn_zipB {P : Program} {w : World} {K : PySem.W.Frag} {es : List Expr} {kx : Nat} {po : Pos} {k l : Bool} {a b z TI TO p q : Addr} (D : ZipApart z TI TO p q a b) :
    Turn P w K (.Tuple es kx po) (ItzB K k l a b) [z, TI, TO, p, q] z (fun i h => IsZip h z TI TO .none ∧ PySem.IsPair h TI (.ref p) (.ref q) ∧ (∃ x y, PySem.IsPair h TO x y) ∧ itB2 k h p a i ∧ itB2 l h q b i) where
  mem := .head _
  obj := fun i h ⟨z1, z2, ⟨_, _, z3⟩, z4, z5⟩ c hc => by
    obtain ⟨o4, e4, d4⟩ := z4.obj
    obtain ⟨o5, e5, d5⟩ := z5.obj
    rcases five hc with e | e | e | e | e <;> subst e
    · exact ⟨_, z1, fun _ e => nomatch e⟩
    · exact ⟨_, z2, fun _ e => nomatch e⟩
    · exact ⟨_, z3, fun _ e => nomatch e⟩
    · exact ⟨o4, e4, fun _ e => by rw [d4] at e; cases e⟩
    · exact ⟨o5, e5, fun _ e => by rw [d5] at e; cases e⟩
  keep := fun i h g ⟨z1, z2, ⟨x, y, z3⟩, z4, z5⟩ f =>
    ⟨f _ (.head _) _ z1, f _ (.tail _ (.head _)) _ z2, ⟨x, y, f _ (.tail _ (.tail _ (.head _))) _ z3⟩, z4.go fun o => f _ (.tail _ (.tail _ (.tail _ (.head _)))) o, z5.go fun o => f _ (.tail _ (.tail _ (.tail _ (.tail _ (.head _))))) o⟩
  item := by
    rintro X rfl rfl rfl hc i pins s σ H Ex I hf ⟨z1, z2, ⟨x0, y0, z3⟩, z4, z5⟩ ⟨xs, ys, x, y, ha, hb, ex, ey⟩
    obtain ⟨us, r1, p1⟩ := ha.have I
    obtain ⟨vs, r2, p2⟩ := hb.have I
    obtain ⟨u, eu, ru⟩ := r1.get ex
    obtain ⟨v, ev, rv⟩ := r2.get ey
    have hh : X.A.in1.handled = none := I.ok.hd hc
    have l1 : i < us.toArray.size := by
      obtain ⟨g, _⟩ := List.getElem?_eq_some_iff.mp eu
      simpa using g
    have l2 : i < vs.toArray.size := by
      obtain ⟨g, _⟩ := List.getElem?_eq_some_iff.mp ev
      simpa using g
    have nz := Heap.lt_size z1
    refine wpAny_pyNext_zipD2_item (sepB D) (drawsB hh p a D.l1i1 us.toArray k) (drawsB hh q b D.l2i2 vs.toArray l) z1 z2 z3 ⟨z4, p1⟩ ⟨z5, p2⟩ l1 l2 fun w1 w2 g tk y1 y2 b1 b2 b3 b4 b5 b6 b7 => ?_
    have e1 : w1 = u := by
      have y1 : us.toArray[i]? = some w1 := y1
      rw [List.getElem?_toArray, eu] at y1
      exact (Option.some.inj y1).symm
    have e2 : w2 = v := by
      have y2 : vs.toArray[i]? = some w2 := y2
      rw [List.getElem?_toArray, ev] at y2
      exact (Option.some.inj y2).symm
    subst e1 e2
    refine ⟨_, rfl, wpAny_letOwnedTupleGo_zip (s := { s with heap := g, toks := tk }) b1 fun g2 c1 sb => ?_⟩
    have T2 : g2.get? s.heap.objs.size = some { cls := .type "tuple", data := .seq #[w1, w2] } := (sb.2 _ (Nat.ne_of_gt nz)).trans b5
    have nw : ObjOk X.prog X.w (upd H s.heap.objs.size (.tup [x, y])) g2 s.heap.objs.size (.tup [x, y]) := ⟨(by decide : 2 ≤ sizeLine), [w1, w2], .cons ru (.cons rv .nil), _, T2, rfl, _, rfl⟩
    have J : Inv X pins σ (upd H s.heap.objs.size (.tup [x, y])) { s with heap := g2, toks := tk } :=
      I.turnedNew (t' := tk) (ch := [z, TI, TO, p, q]) (fun c o n e => by
        obtain ⟨n1, n2, n3, n4⟩ := notFive n
        exact (sb.2 c n1).trans (b7 c o n1 n2 n3 n4 e)) hf (Nat.le_refl _) nw
    refine ⟨.ref s.heap.objs.size, _, J, rfl, ⟨_, x, y, rfl, I.hok.fresh (Nat.le_refl _), rfl, fun m hm => by rw [hm.same I ha]; exact ex, fun m hm => by rw [hm.same I hb]; exact ey⟩, ⟨c1, ?_, ⟨w1, w2, (sb.2 _ D.TOz).trans b2⟩, b3.1.go fun o e => (sb.2 _ D.i1z).trans e, b4.1.go fun o e => (sb.2 _ D.i2z).trans e⟩, fun c hcm => ?_⟩
    · exact (sb.2 _ D.TIz).trans (b7 _ _ D.TIz D.TITO D.TIi1 D.TIi2 z2)
    · have hlt : c < s.heap.objs.size := by
        obtain ⟨_, e4, _⟩ := z4.obj
        obtain ⟨_, e5, _⟩ := z5.obj
        rcases five hcm with e | e | e | e | e <;> subst e
        · exact nz
        · exact Heap.lt_size z2
        · exact Heap.lt_size z3
        · exact Heap.lt_size e4
        · exact Heap.lt_size e5
      rw [upd_ne (Nat.ne_of_lt hlt)]
      exact (hf c hcm).1
  done := by
    rintro X rfl rfl rfl hc i pins s σ H Ex I hf ⟨z1, z2, ⟨x0, y0, z3⟩, z4, z5⟩ ⟨xs, ys, ha, hb, en⟩
    obtain ⟨us, r1, p1⟩ := ha.have I
    obtain ⟨vs, r2, p2⟩ := hb.have I
    have n1 : us.toArray.size = xs.length := by rw [List.size_toArray, r1.length]
    have n2 : vs.toArray.size = ys.length := by rw [List.size_toArray, r2.length]
    have hh : X.A.in1.handled = none := I.ok.hd hc
    refine wpAny_pyNext_zipD2_end (sepB D) (drawsB hh p a D.l1i1 us.toArray k) (drawsB hh q b D.l2i2 vs.toArray l) z1 z2 z3 ⟨z4, p1⟩ ⟨z5, p2⟩ (by omega) (by omega) (by omega) fun g tk b7 => ⟨rfl, I.turnedL (t' := tk) (ch := [z, TI, TO, p, q]) (fun c o n e => by
      obtain ⟨m1, m2, m3, m4⟩ := notFive n
      exact b7 c o m1 m2 m3 m4 e) hf⟩
  self := fun _ _ _ _ _ st h => wpAny_pyIter_zip st.1 h
/-! ### the zip is made -/
abbrev zb1 (k : Bool) (h : Heap) (a : Addr) : Heap := h.push { cls := .type (nmB k), data := .fields #[.ref a, .int 0 0] }
abbrev zb2 (k l : Bool) (h : Heap) (a b : Addr) : Heap := zb1 l (zb1 k h a) b
abbrev zb3 (k l : Bool) (h : Heap) (a b : Addr) : Heap := (zb2 k l h a b).push { cls := .type "tuple", data := .seq #[.ref h.objs.size, .ref (zb1 k h a).objs.size] }
abbrev zb4 (k l : Bool) (h : Heap) (a b : Addr) : Heap := (zb3 k l h a b).push { cls := .type "tuple", data := .seq #[.none, .none] }
abbrev zb5 (k l : Bool) (h : Heap) (a b : Addr) : Heap := (zb4 k l h a b).push { cls := .type "zip", data := .fields #[.none, .bool false, .bool false, .ref (zb2 k l h a b).objs.size, .ref (zb3 k l h a b).objs.size] }
theorem pyIterB {prog : Program} {w : World} {A : Around} {E : Value → Shared → Prop} {s : Shared} {a : Addr} {us : Array Value} {Q : Value → Shared → Prop} : ∀ {k : Bool}, inB2 k s.heap a us →
    Q (.ref s.heap.objs.size) { s with heap := zb1 k s.heap a } → wpAny (model prog w) A (pyIter (.ref a)) Q E s
  | true, p, h => wpAny_pyIter_list p h
  | false, p, h => wpAny_pyIter_tuple p h
theorem meets_zipB (k l : Bool) (a b : Addr) (us vs : Array Value) :
    Meets (Builtin.«zip.__new__» ⟨[.type "zip", .ref a, .ref b], []⟩) (fun _ R s => inB2 k s.heap a us ∧ inB2 l s.heap b vs ∧ R (.ok (.ret (.ref (zb4 k l s.heap a b).objs.size))) { s with heap := zb5 k l s.heap a b }) :=
  .of_wp fun prog w A R s h => by
    obtain ⟨hp, g, d, tk, os⟩ := s
    obtain ⟨p1, p2, h⟩ := h
    have hsub := sub_zip
    have q1 : inB2 k (Shared.heap ⟨hp, g, d, tk, os⟩) a us := p1
    have q2 : inB2 l (Shared.heap ⟨zb1 k hp a, g, d, tk, os⟩) b vs := p2.push _
    wp_walk using pyIterB q1, pyIterB q2
    exact ⟨_, rfl, h⟩
theorem call_zipB {prog : Program} {w : World} {A : Around} {E : Value → Shared → Prop} {s : Shared} {k l : Bool} {a b : Addr} {us vs : Array Value} {Q : Value → Shared → Prop} (p1 : inB2 k s.heap a us) (p2 : inB2 l s.heap b vs)
    (h : ∀ g, IsZip g (s.heap.objs.size + 4) (s.heap.objs.size + 2) (s.heap.objs.size + 3) .none → PySem.IsPair g (s.heap.objs.size + 2) (.ref s.heap.objs.size) (.ref (s.heap.objs.size + 1)) → PySem.IsPair g (s.heap.objs.size + 3) .none .none →
      itB2 k g s.heap.objs.size a 0 → itB2 l g (s.heap.objs.size + 1) b 0 → (∀ c o, s.heap.get? c = some o → g.get? c = some o) → Q (.ref (s.heap.objs.size + 4)) { s with heap := g }) :
    wpAny (model prog w) A (call (.type "zip") [.ref a, .ref b]) Q E s := by
  refine callType_new F.called_zip (by decide) (F.typeCall_zip_2 _ _) (F.newCall_zip_2 _ _) (fun o => F.args_object_init_3 o _ _) F.entry_zip_new (meets_zipB k l a b us vs) ⟨p1, p2, ?_⟩
  have n1 : (zb1 k s.heap a).objs.size = s.heap.objs.size + 1 := Heap.size_push ..
  have n2 : (zb2 k l s.heap a b).objs.size = s.heap.objs.size + 2 := by rw [Heap.size_push, n1]
  have n3 : (zb3 k l s.heap a b).objs.size = s.heap.objs.size + 3 := by rw [Heap.size_push, n2]
  have n4 : (zb4 k l s.heap a b).objs.size = s.heap.objs.size + 4 := by rw [Heap.size_push, n3]
  have f1 : (zb1 k s.heap a).get? s.heap.objs.size = some _ := Heap.get?_push_size _ rfl
  have f2 : (zb2 k l s.heap a b).get? (zb1 k s.heap a).objs.size = some _ := Heap.get?_push_size _ rfl
  have f3 : (zb3 k l s.heap a b).get? (zb2 k l s.heap a b).objs.size = some _ := Heap.get?_push_size _ rfl
  have f4 : (zb4 k l s.heap a b).get? (zb3 k l s.heap a b).objs.size = some _ := Heap.get?_push_size _ rfl
  have f5 : (zb5 k l s.heap a b).get? (zb4 k l s.heap a b).objs.size = some _ := Heap.get?_push_size _ rfl
  have up {x : Heap} {o o2 : Obj} {c : Addr} (e : x.get? c = some o) : (x.push o2).get? c = some o := Heap.get?_push_of_some _ e
  rw [n1] at f2
  rw [n1, n2] at f3
  rw [n3] at f4
  rw [n2, n3, n4] at f5
  show _ ∧ _
  rw [n4]
  exact ⟨⟨_, f5, rfl⟩, h _ f5 (up (up f3)) (up f4) (itB2.mk (up (up (up (up f1))))) (itB2.mk (up (up (up f2)))) fun c o e => up (up (up (up (up e))))⟩
def iZipB (K : PySem.W.Frag) (ta : TA) : TI := fun σ H R => ta σ H fun vs G => ∃ a b k l xs ys, vs = [.ref a, .ref b] ∧ SqB K k G a xs ∧ SqB K l G b ys ∧ R (ItzB K k l a b) G
theorem pi_zipB {X : Cx} {e f : Expr} {ta : TA} {p pos po : Pos} {es : List Expr} {kx : Nat} (hg : Gl X "zip") (hm : X.mg "zip" = none) (ha : PA X [e, f] ta)
    (hs : starEach [e, f] X.env = (false, eval e X.env) :: starEach [f] X.env := by rfl) (hpl : (backTo pos (starEach [f] X.env)).any (·.1) = false := by rfl) :
    PI X (.Tuple es kx po) (.Call (.Name "zip" p) [e, f] [] pos) (iZipB X.K ta) where
  run pins s σ H R I h := by
    refine Call_ (ld_blt I hg hm PyProof.Rows.boot_zip (PyProof.Rows.callWith_type1 (thn (ha.run pos pins s σ H _ I h) ?_) hs hpl))
    rintro us s1 ⟨vs, G, J, rv, a, b, k, l, xs, ys, rfl, qa, qb, q⟩
    obtain ⟨u1, u2, rfl, ra, rb⟩ := vals2 rv
    cases ra
    cases rb
    obtain ⟨ua, _, p1⟩ := qa.have J
    obtain ⟨ub, _, p2⟩ := qb.have J
    refine call_zipB p1 p2 fun g z1 z2 z3 z4 z5 up => wpAny_pyIter_zip z1 ?_
    refine ⟨s1.heap.objs.size + 4, [s1.heap.objs.size + 4, s1.heap.objs.size + 2, s1.heap.objs.size + 3, s1.heap.objs.size, s1.heap.objs.size + 1], _, _, G, rfl, J.kept (t' := s1.toks) up, turn_zipB (PySem.W.ktu_apart s1.heap.objs.size a b p1.lt p2.lt), ⟨z1, z2, ⟨_, _, z3⟩, z4, z5⟩, fun c hc => ?_, q⟩
    have le : s1.heap.objs.size ≤ c := by
      rcases five hc with e | e | e | e | e <;> (rw [e]; first | exact Nat.le_refl _ | exact Nat.le_add_right _ _)
    exact J.fpOk le (J.hok.fresh le)
end DL
set_option Elab.async false
set_option linter.all false
set_option autoImplicit false
set_option maxRecDepth 100000
set_option maxHeartbeats 4000000
/-! DLr: the data layer, part eighteen: what can be sorted, tuples of which the first is empty too. -/
namespace DL
open PySem PySem.Spec PyProof.Rows L2
open PySem.Sem (wp)
open PySem.W PySem.SeqAt
/-- what can be sorted -/
def Srt (ds : List PyData) : Prop := Sortable ds ∨ ∃ r, ds = .tuple [] :: r ∧ ∀ d ∈ r, ∃ xs, d = .tuple xs
section
variable {prog : Program} {w : World} {A : Around} {E : Value → Shared → Prop} {s : Shared}
/-- tuples, with their first items -/
inductive Fsts (h : Heap) : List Value → List (Option Value) → Prop
  | nil : Fsts h [] []
  | cons {a : Addr} {o : Obj} {xs : Array Value} {n : Nat} {vs : List Value} {fs : List (Option Value)} : h.get? a = some o → o.cls = .type "tuple" → o.data = .seq xs n → Fsts h vs fs → Fsts h (.ref a :: vs) (xs[0]? :: fs)
theorem Fsts.len {h : Heap} {vs : List Value} {fs : List (Option Value)} (t : Fsts h vs fs) : vs.length = fs.length := by
  induction t with
  | nil => rfl
  | cons _ _ _ _ ih => rw [List.length_cons, List.length_cons, ih]
theorem fsts_run {M : Model} {vs : List Value} {fs : List (Option Value)} (t : Fsts s.heap vs fs) : ∀ {Q : List (Option Value) → Shared → Prop}, Q fs s → wpAny M A (vs.mapM firstOfTuple') Q E s := by
  induction t with
  | nil => exact fun h => by rw [List.mapM_nil]; exact wpAny_pure h
  | @cons a o xs n vs fs ho hc hd t ih =>
    intro Q h
    rw [List.mapM_cons]
    refine wpAny_bind ?_
    rw [kas_first_eq]
    refine wpAny_bind (Looks.here (show Looks M s.heap (typeOf (.ref a)) o.cls from (Looks.ld ho).andThen .now) ?_)
    rw [hc, if_neg (by first | decide | simp)]
    refine wpAny_bind (listItems_at ho hd (wpAny_pure ?_))
    exact wpAny_bind (ih (Q := fun bs s' => wpAny M A (pure (xs[0]? :: bs)) Q E s') (wpAny_pure h))
theorem each_fsts {h : Heap} : ∀ {vs : List Value} {ds : List PyData}, EachIs (fun v d => ∃ as, Reads h v d as) vs ds → (∀ d ∈ ds, ∃ xs, d = .tuple xs) → ∃ fs, Fsts h vs fs
  | _, _, .nil, _ => ⟨[], .nil⟩
  | _, _, .cons (b := d) ⟨as, r⟩ t, ht => by
    obtain ⟨fs, q⟩ := each_fsts t fun d hd => ht d (List.mem_cons_of_mem _ hd)
    obtain ⟨xs, rfl⟩ := ht d (List.mem_cons_self ..)
    cases r with
    | tuple ho hc hd hr => exact ⟨_, .cons ho hc hd q⟩
theorem kind_mix {M : Model} {vs : List Value} {fs : List (Option Value)} {Q : SortKind → Shared → Prop} (t : Fsts s.heap vs (none :: fs)) (hT : ∀ v ∈ vs, Looks M s.heap (typeOf v) (.type "tuple")) (h : Q oneType' s) : wpAny M A (keyKind' vs.toArray) Q E s := by
  rw [kat_kind_eq, List.mapM_toArray, map_eq_pure_bind]
  refine wpAny_bind (wpAny_bind (fsts_run t (wpAny_pure ?_)))
  have f1 : ¬ (((none :: fs).toArray.all fun x => x.isSome) = true) := by simp
  have f2 : ¬ ((((none :: fs).toArray[0]?).bind id).isSome = true) := by simp
  rw [if_neg f1, if_neg f2]
  rw [oneTypeOnly'_eq, List.mapM_toArray, map_eq_pure_bind]
  refine wpAny_bind (wpAny_bind (wpAny_bind (kas_mapM (r := .type "tuple") _ (fun v hv Q' hq => (hT v hv).here hq) (wpAny_pure ?_))))
  have ln := t.len
  obtain ⟨v1, vr, rfl⟩ : ∃ v1 vr, vs = v1 :: vr := by
    cases vs with
    | nil => cases ln
    | cons v vs => exact ⟨_, _, rfl⟩
  have al : ((List.map (fun _ => Value.type "tuple") (v1 :: vr)).toArray.all fun x => x == Value.type "tuple") = true := by
    simp only [List.all_toArray, List.all_map, List.all_eq_true]
    intro _ _
    exact beq_self_eq_true _
  have h0 : (List.map (fun _ => Value.type "tuple") (v1 :: vr)).toArray[0]? = some (Value.type "tuple") := by simp
  rw [h0]
  simp only [al, if_true]
  exact wpAny_pure (wpAny_pure h)
theorem tuple_lt_call {Q : Value → Shared → Prop} {l b : Addr} {xs ys : Array Value} {e r : Nat → Bool} (hl : s.heap.IsTuple l xs) (hb : s.heap.IsTuple b ys)
    (he : ∀ j (h1 : j < xs.size) (h2 : j < ys.size), EqAt A.in1 s xs[j] ys[j] (e j)) (hr : ∀ j (h1 : j < xs.size) (h2 : j < ys.size), e j = false → RcLt A.in1 s xs[j] ys[j] (r j))
    (h : Q (.bool (firstLt e r (decide (xs.size < ys.size)) (List.range (min xs.size ys.size)))) s) : wpAny (model prog w) A (call (.builtin "tuple.__lt__") [.ref l, .ref b]) Q E s := by
  obtain ⟨⟨c1, g1, q1, t1⟩, ho, hc, n, hd⟩ := id hl
  obtain ⟨⟨c2, g2, q2, t2⟩, ho2, hc2, n2, hd2⟩ := id hb
  simp only at hc hd hc2 hd2
  subst hc hd hc2 hd2
  exact call_meets F.slot_tuple_lt ⟨_, ho, rfl⟩ F.entry_tuple_lt (F.args_tuple_lt_2 _ _) (tuple_ltAt l b xs ys n n2 g1 g2 t1 t2 e r) ⟨ho, ho2, he, hr, h⟩
theorem oneLt_tup {xs ys : List PyData} {a b : Value} {as bs : List Addr} {Q : Bool → Shared → Prop} (ra : Reads s.heap a (.tuple xs) as) (rb : Reads s.heap b (.tuple ys) bs) (h : alike (.tuple xs) (.tuple ys) = true)
    (hu : A.units + min (PyData.depth (.tuple xs)) (PyData.depth (.tuple ys)) < cLine) (hq : Q (dataLt (.tuple xs) (.tuple ys)) s) : wpAny (model prog w) A (oneLt' true a b) Q E s := by
  have hal : alikeAll xs ys = true := by simpa [alike] using h
  cases ra with
  | @tuple l o vs n _ as₁ h1 h2 h3 h4 =>
    cases rb with
    | @tuple l' o' ws n' _ bs₁ k1 k2 k3 k4 =>
      have n1 : vs.size = xs.length := by simpa using ReadsAll.length _ _ _ h4
      have n2 : ws.size = ys.length := by simpa using ReadsAll.length _ _ _ k4
      rw [dataLt_tuple, ← firstLt_toks xs ys hal, ← n1, ← n2] at hq
      rw [oneLt'_eq]
      simp only [if_true]
      refine wpAny_bind (wpAny_cRoomFor (room_here hu) ?_)
      refine wpAny_bind (wpAny_callSpecialIfBound?_slot (T := "tuple") ⟨_, h1, h2⟩ F.slot_tuple_lt (tuple_lt_call (e := pairEq xs ys) (r := fun j => dataLt (xs.getD j .none) (ys.getD j .none)) ⟨_, h1, h2, _, h3⟩ ⟨_, k1, k2, _, k3⟩ (fun j j1 j2 => ?_) (fun j j1 j2 hj => ?_) (wpAny_truthy_bool hq)))
      · have q := eqAt_alikeAll xs ys A.in1 s vs.toList ws.toList _ _ h4 k4 hal (room_in hu) j (by simpa using j1) (by simpa using j2)
        simpa using q
      · have q := rcLt_alikeAll xs ys A.in1 s vs.toList ws.toList _ _ h4 k4 hal (room_in hu) j (by simpa using j1) (by simpa using j2) hj
        simpa using q
/-- values that read as alike data can be sorted -/
theorem sortsAt {vs : List Value} {ds : List PyData} (e : EachIs (fun v d => ∃ as, Reads s.heap v d as) vs ds) (hal : AllAlike ds) (hk : Srt ds) (hu : ∀ d, d ∈ ds → A.units + d.depth < cLine) : SortsAt prog w A s (dataKind s.heap ds) vs := by
  rcases hk with hk | ⟨r, rfl, ht⟩
  · exact SortsAt.data e hal hk hu
  · have tup : ∀ d ∈ PyData.tuple [] :: r, ∃ xs, d = .tuple xs := fun d hd => by
      rcases List.mem_cons.mp hd with q | q
      · exact ⟨_, q⟩
      · exact ht d q
    refine ⟨fun v hv => ?_, oneType', ?_, fun _ EE Q hq => ?_⟩
    · obtain ⟨d, hd, as, q⟩ := e.left v hv
      exact ⟨_, dataKind_some hal hd q⟩
    · intro EE x y a b Q ha hb hq
      obtain ⟨d, as, hd, ra, rfl⟩ := dataKind_inv ha
      obtain ⟨d', bs, hd', rb, rfl⟩ := dataKind_inv hb
      obtain ⟨xs, rfl⟩ := tup d hd
      obtain ⟨ys, rfl⟩ := tup d' hd'
      rw [keyLt'_oneType]
      exact oneLt_tup ra rb (hal _ hd _ hd') (Nat.lt_of_le_of_lt (Nat.add_le_add_left (Nat.min_le_left _ _) _) (hu _ hd)) hq
    · have lk : ∀ v ∈ vs, Looks (model prog w) s.heap (typeOf v) (.type "tuple") := fun v hv => by
        obtain ⟨d, hd, as, q⟩ := e.left v hv
        obtain ⟨xs, rfl⟩ := tup d hd
        exact looks_reads q
      cases e with
      | cons q t =>
        obtain ⟨as, q⟩ := q
        obtain ⟨fs, g⟩ := each_fsts t ht
        cases q with
        | @tuple l o vs n _ as₁ ho hc hd hr =>
          have e0 : vs.toList = [] := by
            cases h : vs.toList with
            | nil => rfl
            | cons u us => rw [h] at hr; cases hr
          have f0 : vs[0]? = none := by
            rw [← Array.getElem?_toList, e0]
            rfl
          have g2 := Fsts.cons ho hc hd g
          rw [f0] at g2
          exact kind_mix g2 lk hq
end
end DL
set_option Elab.async false
set_option linter.all false
set_option autoImplicit false
set_option maxRecDepth 100000
set_option maxHeartbeats 4000000
/-! DLs: the data layer, part nineteen: list(zip(a, b)), a and b lists. -/
namespace DL
open PySem PySem.Spec PyProof.Rows L2
open PySem.Sem (wp)
theorem zip_no_len : typeLookup (.type "zip") "__len__" = pure none := am_miss_of_fast (by decide +kernel)
theorem zip_no_hint : typeLookup (.type "zip") "__length_hint__" = pure none := am_miss_of_fast (by decide +kernel)
/-- a zip of two lists after i turns, its pair free or out -/
structure Zs (h : Heap) (z TI TO p q a b : Addr) (us vs : Array Value) (i : Nat) : Prop where
  ti : PySem.IsPair h TI (.ref p) (.ref q)
  ip : h.IsListIter p a i
  iq : h.IsListIter q b i
  la : h.IsList a us
  lb : h.IsList b vs
  st : ((∃ x y, PySem.IsPair h TO x y) ∧ IsZip h z TI TO .none) ∨ ∃ T f oT, PySem.IsZipHeld h z TI TO T f ∧ h.get? T = some oT
theorem Zs.ty {s : Shared} {z TI TO p q a b : Addr} {us vs : Array Value} {i : Nat} (Z : Zs s.heap z TI TO p q a b us vs i) : s.TypeIs (.ref z) "zip" := by
  rcases Z.st with ⟨_, h⟩ | ⟨T, f, oT, h, _⟩
  · exact ⟨_, h, rfl⟩
  · exact ⟨_, h, rfl⟩
theorem Zs.upd {h g : Heap} {z TI TO p q a b S : Addr} {us vs : Array Value} {i : Nat} (Z : Zs h z TI TO p q a b us vs i) (k : ∀ c o, c ≠ S → h.get? c = some o → g.get? c = some o) (live : ∃ o, g.get? S = some o) (n : S ≠ z ∧ S ≠ TI ∧ S ≠ TO ∧ S ≠ p ∧ S ≠ q ∧ S ≠ a ∧ S ≠ b) : Zs g z TI TO p q a b us vs i := by
  obtain ⟨n1, n2, n3, n4, n5, n6, n7⟩ := n
  refine ⟨k _ _ n2.symm Z.ti, Z.ip.at fun o => k _ o n4.symm, Z.iq.at fun o => k _ o n5.symm, Z.la.at fun o => k _ o n6.symm, Z.lb.at fun o => k _ o n7.symm, ?_⟩
  rcases Z.st with ⟨⟨x, y, t⟩, h⟩ | ⟨T, f, oT, h, t⟩
  · exact .inl ⟨⟨x, y, k _ _ n3.symm t⟩, k _ _ n1.symm h⟩
  · by_cases e : T = S
    · obtain ⟨o, ho⟩ := live
      exact .inr ⟨T, f, o, k _ _ n1.symm h, by rw [e]; exact ho⟩
    · exact .inr ⟨T, f, oT, k _ _ n1.symm h, k _ _ e t⟩
/-- the pairs made -/
structure Zg (h : Heap) (lo : Nat) (us vs : Array Value) (as : List Addr) : Prop where
  above : ∀ t ∈ as, lo < t ∧ t < h.objs.size
  rise : as.Pairwise (· < ·)
  pairs : ∀ (j : Nat) (t : Addr), as[j]? = some t → ∃ x y, us[j]? = some x ∧ vs[j]? = some y ∧ PySem.IsPair h t x y
section
variable {prog : Program} {w : World} {A : Around} {E : Value → Shared → Prop} {z TI TO p q a b S : Addr} {us vs : Array Value}
theorem zs_item {s : Shared} {i : Nat} {x y : Value} {Q : Option Value → Shared → Prop} (D : ZipApart z TI TO p q a b) (Z : Zs s.heap z TI TO p q a b us vs i) (hx : us[i]? = some x) (hy : vs[i]? = some y)
    (h : ∀ g, Zs g z TI TO p q a b us vs (i + 1) → PySem.IsPair g s.heap.objs.size x y → g.objs.size = s.heap.objs.size + 1 → (∀ c o, c ≠ z → c ≠ TO → c ≠ p → c ≠ q → s.heap.get? c = some o → g.get? c = some o) → Q (some (.ref s.heap.objs.size)) { s with heap := g }) :
    wpAny (model prog w) A (pyNext (.ref z)) Q E s := by
  rcases Z.st with ⟨⟨u, v, t⟩, hz⟩ | ⟨T, f, oT, hz, t⟩
  · refine wpAny_pyNext_zip_item D hz Z.ti t Z.ip Z.iq Z.la Z.lb hx hy fun g a1 a2 a3 a4 a5 a6 k => ?_
    exact h g ⟨k _ _ D.TIz D.TITO D.TIi1 D.TIi2 Z.ti, a3, a4, Z.la.at fun o e => k _ o D.l1z D.l1TO D.l1i1 D.l1i2 e, Z.lb.at fun o e => k _ o D.l2z D.l2TO D.l2i1 D.l2i2 e, .inr ⟨_, false, _, a1, a5⟩⟩ a5 a6 k
  · refine PySem.wpAny_pyNext_zip_item_held D hz t Z.ti Z.ip Z.iq Z.la Z.lb hx hy fun g a1 a3 a4 a5 a6 k => ?_
    have k2 : ∀ c o, c ≠ z → c ≠ TO → c ≠ p → c ≠ q → s.heap.get? c = some o → g.get? c = some o := fun c o c1 _ c3 c4 e => k c o c1 c3 c4 e
    have live : ∃ o, g.get? T = some o := by
      by_cases e1 : T = z
      · exact ⟨_, by rw [e1]; exact a1⟩
      by_cases e2 : T = p
      · obtain ⟨o, e, _⟩ := a3
        exact ⟨o, by rw [e2]; exact e⟩
      by_cases e3 : T = q
      · obtain ⟨o, e, _⟩ := a4
        exact ⟨o, by rw [e3]; exact e⟩
      exact ⟨_, k _ _ e1 e2 e3 t⟩
    obtain ⟨o2, t2⟩ := live
    exact h g ⟨k _ _ D.TIz D.TIi1 D.TIi2 Z.ti, a3, a4, Z.la.at fun o e => k _ o D.l1z D.l1i1 D.l1i2 e, Z.lb.at fun o e => k _ o D.l2z D.l2i1 D.l2i2 e, .inr ⟨T, true, o2, a1, t2⟩⟩ a5 a6 k2
theorem zs_end {s : Shared} {i : Nat} {Q : Option Value → Shared → Prop} (hh : A.handled = none) (D : ZipApart z TI TO p q a b) (Z : Zs s.heap z TI TO p q a b us vs i) (he : us[i]? = none ∨ vs[i]? = none)
    (h : ∀ g, (∀ c o, c ≠ z → c ≠ TO → c ≠ p → c ≠ q → s.heap.get? c = some o → g.get? c = some o) → Q none { s with heap := g }) : wpAny (model prog w) A (pyNext (.ref z)) Q E s := by
  rcases Z.st with ⟨⟨u, v, t⟩, hz⟩ | ⟨T, f, oT, hz, t⟩
  · exact wpAny_pyNext_zip_end hh D hz Z.ti t Z.ip Z.iq Z.la Z.lb he h
  · exact PySem.wpAny_pyNext_zip_end_held hh D hz t Z.ti Z.ip Z.iq Z.la Z.lb he fun g k => h g fun c o c1 _ c3 c4 e => k c o c1 c3 c4 e
/-- the cells lie below the list -/
structure Lo (z TI TO p q a b S : Addr) : Prop where
  z : z < S
  TI : TI < S
  TO : TO < S
  p : p < S
  q : q < S
  a : a < S
  b : b < S
theorem Lo.ne (l : Lo z TI TO p q a b S) : S ≠ z ∧ S ≠ TI ∧ S ≠ TO ∧ S ≠ p ∧ S ≠ q ∧ S ≠ a ∧ S ≠ b :=
  ⟨Nat.ne_of_gt l.z, Nat.ne_of_gt l.TI, Nat.ne_of_gt l.TO, Nat.ne_of_gt l.p, Nat.ne_of_gt l.q, Nat.ne_of_gt l.a, Nat.ne_of_gt l.b⟩
theorem Zg.keep {h g : Heap} {as : List Addr} (G : Zg h S us vs as) (k : ∀ t, S < t → ∀ o, h.get? t = some o → g.get? t = some o) : Zg g S us vs as := by
  have ps : ∀ (j : Nat) (t : Addr), as[j]? = some t → ∃ x y, us[j]? = some x ∧ vs[j]? = some y ∧ PySem.IsPair g t x y := fun j t e => by
    obtain ⟨x, y, e1, e2, e3⟩ := G.pairs j t e
    exact ⟨x, y, e1, e2, k t (G.above t (List.mem_of_getElem? e)).1 _ e3⟩
  refine ⟨fun t ht => ⟨(G.above t ht).1, ?_⟩, G.rise, ps⟩
  obtain ⟨j, e⟩ := List.mem_iff_getElem?.mp ht
  obtain ⟨_, _, _, _, e3⟩ := ps j t e
  exact Heap.lt_size e3
theorem Zg.snoc {h : Heap} {as : List Addr} {T : Addr} {x y : Value} (G : Zg h S us vs as) (nw : ∀ t ∈ as, t < T) (lo : S < T) (hx : us[as.length]? = some x) (hy : vs[as.length]? = some y) (hT : PySem.IsPair h T x y) : Zg h S us vs (as ++ [T]) := by
  refine ⟨fun t ht => ?_, List.pairwise_append.mpr ⟨G.rise, List.pairwise_singleton _ _, fun u hu v hv => by rw [List.mem_singleton.mp hv]; exact nw u hu⟩, fun j t e => ?_⟩
  · rcases List.mem_append.mp ht with q | q
    · exact G.above t q
    · rw [List.mem_singleton.mp q]
      exact ⟨lo, Heap.lt_size hT⟩
  · by_cases hj : j < as.length
    · rw [List.getElem?_append_left hj] at e
      exact G.pairs j t e
    · rw [List.getElem?_append_right (by omega)] at e
      obtain ⟨h1, h2⟩ := List.getElem?_eq_some_iff.mp e
      have e0 : j - as.length = 0 := by simpa using h1
      have ej : j = as.length := by omega
      subst ej
      simp at h2
      subst h2
      exact ⟨x, y, hx, hy, hT⟩
theorem zip_loop {R : Result → Shared → Prop} (hh : A.in1.handled = none) (D : ZipApart z TI TO p q a b) (lo : Lo z TI TO p q a b S) (hn : min us.size vs.size ≤ sizeLine) (res : Value) :
    ∀ (k i : Nat) (s : Shared) (acc : Array Value) (c : Nat) (as : List Addr), min us.size vs.size - i = k → i ≤ min us.size vs.size → Zs s.heap z TI TO p q a b us vs i → s.heap.get? S = some { cls := .type "list", dict := none, data := .seq acc c, slots := #[] } →
      acc.toList = as.map Value.ref → as.length = i → Zg s.heap S us vs as →
    (∀ g acc' c' as', (∀ d o, d ≠ z → d ≠ TO → d ≠ p → d ≠ q → d ≠ S → s.heap.get? d = some o → g.get? d = some o) → g.get? S = some { cls := .type "list", dict := none, data := .seq acc' c', slots := #[] } → acc'.toList = as'.map Value.ref → as'.length = min us.size vs.size → Zg g S us vs as' → R (.ok (.ret res)) { s with heap := g }) →
    codeAny (model prog w) A (.builtin "list.extend.loop" ⟨[.ref S, .ref z, res], []⟩) R s := by
  obtain ⟨nz, nTI, nTO, np, nq, na, nb⟩ := lo.ne
  have far : ∀ t, S < t → t ≠ z ∧ t ≠ TO ∧ t ≠ p ∧ t ≠ q := fun t h => ⟨Nat.ne_of_gt (Nat.lt_trans lo.z h), Nat.ne_of_gt (Nat.lt_trans lo.TO h), Nat.ne_of_gt (Nat.lt_trans lo.p h), Nat.ne_of_gt (Nat.lt_trans lo.q h)⟩
  intro k
  induction k with
  | zero =>
    intro i s acc c as hk hi Z hS ha hl G hR
    refine codeAny_builtin F.entry_extend_loop ?_
    rw [Around.under_plainId F.plain_extend_loop _]
    show wpAny _ A.in1 (pyNext (.ref z) >>= _) _ _ s
    have he : us[i]? = none ∨ vs[i]? = none := by
      by_cases c1 : us.size ≤ i
      · exact .inl (by simp [c1])
      · exact .inr (by simp; omega)
    refine wpAny_bind (zs_end hh D Z he fun g kp => wpAny_pure ?_)
    refine hR g acc c as (fun d o n1 n2 n3 n4 _ e => kp d o n1 n2 n3 n4 e) (kp _ _ nz nTO np nq hS) ha (by omega) (G.keep fun t ht o e => ?_)
    obtain ⟨n1, n2, n3, n4⟩ := far t ht
    exact kp t o n1 n2 n3 n4 e
  | succ k ih =>
    intro i s acc c as hk hi Z hS ha hl G hR
    have i1 : i < us.size := by omega
    have i2 : i < vs.size := by omega
    refine codeAny_builtin F.entry_extend_loop ?_
    rw [Around.under_plainId F.plain_extend_loop _]
    show wpAny _ A.in1 (pyNext (.ref z) >>= _) _ _ s
    refine wpAny_bind (zs_item D Z (Array.getElem?_eq_getElem i1) (Array.getElem?_eq_getElem i2) fun g Z2 hT hsz kp => ?_)
    have hS2 := kp _ _ nz nTO np nq hS
    have accl : acc.size = i := by rw [← Array.length_toList, ha, List.length_map, hl]
    have Ts : S < s.heap.objs.size := Heap.lt_size hS
    have G2 : Zg g S us vs (as ++ [s.heap.objs.size]) := (G.keep fun t ht o e => by
      obtain ⟨n1, n2, n3, n4⟩ := far t ht
      exact kp t o n1 n2 n3 n4 e).snoc (fun t ht => (G.above t ht).2) Ts (by rw [hl]; exact Array.getElem?_eq_getElem i1) (by rw [hl]; exact Array.getElem?_eq_getElem i2) hT
    show wpAny _ A.in1 (updateSeq S (·.push (.ref s.heap.objs.size)) >>= _) _ _ _
    refine wpAny_bind (wpAny_updateSeq hS2 rfl (wpAny_pure ⟨plainId_quiet F.plain_extend_loop _, ?_⟩) (by rw [accl]; omega) (by show (acc.push _).size ≤ sizeLine + 1; rw [Array.size_push, accl]; omega))
    have up : ∀ d o, d ≠ S → g.get? d = some o → (g.update S (Obj.mapSeq (·.push (.ref s.heap.objs.size)))).get? d = some o := fun d o n e => (Heap.get?_update_other _ _ n.symm).trans e
    have hS3 : (g.update S (Obj.mapSeq (·.push (.ref s.heap.objs.size)))).get? S = _ := Heap.get?_update_self _ hS2 rfl
    refine ih (i + 1) _ (acc.push (.ref s.heap.objs.size)) _ (as ++ [s.heap.objs.size]) (by omega) (by omega) (Z2.upd up ⟨_, hS3⟩ lo.ne) hS3 (by rw [Array.toList_push, ha, List.map_append]; rfl) (by rw [List.length_append, hl]; rfl) (G2.keep fun t ht o e => up t o (Nat.ne_of_gt ht) e) fun g' acc' c' as' kp' h1 h2 h3 h4 => ?_
    exact hR g' acc' c' as' (fun d o n1 n2 n3 n4 n5 e => kp' d o n1 n2 n3 n4 n5 (up d o n5 (kp d o n1 n2 n3 n4 e))) h1 h2 h3 h4
/-- what the whole of it leaves -/
def Made (s : Shared) (z TO p q S : Addr) (us vs : Array Value) (g : Heap) (acc : Array Value) (c : Nat) (as : List Addr) : Prop :=
  (∀ d o, d ≠ z → d ≠ TO → d ≠ p → d ≠ q → d ≠ S → s.heap.get? d = some o → g.get? d = some o) ∧ g.get? S = some { cls := .type "list", dict := none, data := .seq acc c, slots := #[] } ∧ acc.toList = as.map Value.ref ∧ as.length = min us.size vs.size ∧ Zg g S us vs as
theorem zip_extend {s : Shared} {R : Result → Shared → Prop} {c0 : Nat} (hh : A.in1.handled = none) (D : ZipApart z TI TO p q a b) (lo : Lo z TI TO p q a b S) (hn : min us.size vs.size ≤ sizeLine) (res : Value) (Z : Zs s.heap z TI TO p q a b us vs 0) (hz : IsZip s.heap z TI TO .none)
    (hS : s.heap.get? S = some { cls := .type "list", data := .seq #[] c0 }) (hR : ∀ g acc c as, Made s z TO p q S us vs g acc c as → R (.ok (.ret res)) { s with heap := g }) :
    wpAny (model prog w) A.in1 (Builtin.List.listExtendWith (.ref S) (.ref z) res)
      (fun fin s' => match fin with | .done f => R (.ok f) s' | .again c' => c'.quiet = true ∧ codeAny (model prog w) A c' R s') (fun e s' => R (.error e) s') s := by
  obtain ⟨nz, nTI, nTO, np, nq, na, nb⟩ := lo.ne
  unfold Builtin.List.listExtendWith
  refine wpAny_bind (wpAny_typeOf Z.ty ?_)
  have h1 : Builtin.List.listSameRef (.ref S) (.ref z) = false := by simp [Builtin.List.listSameRef, nz]
  have h2 : (Value.type "zip" == Value.type "list") = false := by decide
  have h3 : (Value.type "zip" == Value.type "tuple") = false := by decide
  simp only [h1, h2, h3, Bool.or_false, Bool.false_eq_true, if_false]
  refine wpAny_bind (wpAny_pyIter_zip hz ?_)
  refine wpAny_bind (wpAny_holding ?_)
  unfold Builtin.List.listLengthHint
  refine wpAny_bind (wpAny_specialOf Z.ty zip_no_len ?_)
  show wpAny _ A.in1 (specialOf (Value.ref z) (Str.ofString "__length_hint__") >>= _) _ _ _
  refine wpAny_bind (wpAny_specialOf Z.ty zip_no_hint ?_)
  refine wpAny_pure ?_
  show wpAny _ A.in1 (rule "list.extend.makes-room" >>= fun _ => Builtin.List.listTouch (.ref S) >>= fun _ => again (.builtin "list.extend.loop" ⟨[.ref S, .ref z, res], []⟩)) _ _ _
  refine wpAny_bind (wpAny_rule ?_)
  refine wpAny_bind ?_
  show wpAny _ A.in1 (updateSeq S (·.push .none) >>= fun _ => updateSeq S (·.pop)) _ _ _
  refine wpAny_bind (wpAny_updateSeq hS rfl ?_)
  have hS2 := Heap.get?_update_self (Obj.mapSeq (·.push Value.none)) hS rfl
  refine wpAny_updateSeq (hz := by seq_fits) hS2 rfl ?_
  have hS3 := Heap.get?_update_self (Obj.mapSeq (·.pop)) hS2 rfl
  have up : ∀ d o, d ≠ S → s.heap.get? d = some o → ((s.heap.update S (Obj.mapSeq (·.push Value.none))).update S (Obj.mapSeq (·.pop))).get? d = some o :=
    fun d o n e => (Heap.get?_update_other _ _ n.symm).trans ((Heap.get?_update_other _ _ n.symm).trans e)
  refine wpAny_pure ⟨plainId_quiet F.plain_extend_loop _, zip_loop (us := us) (vs := vs) hh D lo hn res _ 0 _ _ _ [] rfl (Nat.zero_le _) (Z.upd up ⟨_, hS3⟩ lo.ne) hS3 (by rfl) rfl ⟨(fun t ht => by cases ht), List.Pairwise.nil, (fun j t e => by simp at e)⟩ fun g acc c as k h1 h2 h3 h4 => ?_⟩
  exact hR g acc c as ⟨fun d o n1 n2 n3 n4 n5 e => k d o n1 n2 n3 n4 n5 (up d o n5 e), h1, h2, h3, h4⟩
theorem zip_init {s : Shared} {R : Result → Shared → Prop} (hh : A.in1.handled = none) (D : ZipApart z TI TO p q a b) (lo : Lo z TI TO p q a b S) (hn : min us.size vs.size ≤ sizeLine) (Z : Zs s.heap z TI TO p q a b us vs 0) (hz : IsZip s.heap z TI TO .none)
    (hS : s.heap.get? S = some { cls := .type "list", data := .seq #[] }) (hR : ∀ g acc c as, Made s z TO p q S us vs g acc c as → R (.ok (.ret .none)) { s with heap := g }) :
    wpAny (model prog w) A.in1 (Builtin.«list.__init__» ⟨[.ref S, .ref z], []⟩)
      (fun fin s' => match fin with | .done f => R (.ok f) s' | .again c' => c'.quiet = true ∧ codeAny (model prog w) A c' R s') (fun e s' => R (.error e) s') s := by
  show wpAny _ A.in1 (do let old ← Builtin.List.listItems (.ref S); Builtin.List.listUpdate (.ref S) (fun _ => #[]); letGo old.toList.reverse; Builtin.List.listExtendWith (.ref S) (.ref z) .none) _ _ s
  refine wpAny_bind ?_
  unfold Builtin.List.listItems
  refine wpAny_bind (wpAny_seqItems hS rfl (wpAny_pure ?_))
  show wpAny _ A.in1 (updateSeq S (fun _ => #[]) >>= fun _ => letGo (#[] : Array Value).toList.reverse >>= fun _ => Builtin.List.listExtendWith (.ref S) (.ref z) .none) _ _ s
  refine wpAny_bind (wpAny_updateSeq hS rfl ?_)
  have hS2 := Heap.get?_update_self (Obj.mapSeq (fun _ => (#[] : Array Value))) hS rfl
  have up : ∀ d o, d ≠ S → s.heap.get? d = some o → (s.heap.update S (Obj.mapSeq (fun _ => (#[] : Array Value)))).get? d = some o := fun d o n e => (Heap.get?_update_other _ _ n.symm).trans e
  refine wpAny_bind (wpAny_letGo ?_)
  refine zip_extend hh D lo hn .none (Z.upd up ⟨_, hS2⟩ lo.ne) (up _ _ lo.ne.1.symm hz) hS2 fun g acc c as ⟨k, h1, h2, h3, h4⟩ => ?_
  exact hR g acc c as ⟨fun d o n1 n2 n3 n4 n5 e => k d o n1 n2 n3 n4 n5 (up d o n5 e), h1, h2, h3, h4⟩
theorem call_list_zip {s : Shared} {Q : Value → Shared → Prop} (hh : A.handled = none) (D : ZipApart z TI TO p q a b) (lo : Lo z TI TO p q a b s.heap.objs.size) (hn : min us.size vs.size ≤ sizeLine) (Z : Zs s.heap z TI TO p q a b us vs 0) (hz : IsZip s.heap z TI TO .none)
    (hQ : ∀ g acc c as, Made s z TO p q s.heap.objs.size us vs g acc c as → Q (.ref s.heap.objs.size) { s with heap := g }) :
    wpAny (model prog w) A (call (.type "list") [.ref z]) Q E s := by
  refine callType_codes (Q₁ := fun obj s₁ => obj = .ref s.heap.objs.size ∧ s₁ = { s with heap := s.heap.push { cls := .type "list", data := .seq #[] } }) F.called_list (F.typeCall_list_1 _) F.entry_list_init
    (code_list_new _ ⟨rfl, rfl⟩) fun obj s₁ h₁ => ?_
  obtain ⟨rfl, rfl⟩ := h₁
  have hS : (s.heap.push { cls := .type "list", data := .seq #[] }).get? s.heap.objs.size = some { cls := .type "list", data := .seq #[] } := Heap.get?_push_size _ rfl
  have up : ∀ d o, d ≠ s.heap.objs.size → s.heap.get? d = some o → (s.heap.push { cls := .type "list", data := .seq #[] }).get? d = some o := fun d o _ e => Heap.get?_push_of_some _ e
  refine ⟨⟨_, hS, rfl⟩, F.args_list_init_2 _ _, zip_init (us := us) (vs := vs) hh D lo hn (Z.upd up ⟨_, hS⟩ lo.ne) (up _ _ lo.ne.1.symm hz) hS fun g acc c as ⟨k, h1, h2, h3, h4⟩ => ?_⟩
  exact ⟨rfl, hQ g acc c as ⟨fun d o n1 n2 n3 n4 n5 e => k d o n1 n2 n3 n4 n5 (up d o n5 e), h1, h2, h3, h4⟩⟩
end
/-! ### tracked -/
def putZ : Hp → List Addr → List (V × V) → Hp
  | H, t :: ts, z :: zs => putZ (upd H t (.tup [z.1, z.2])) ts zs
  | H, _, _ => H
theorem putZ_cons (H : Hp) (t : Addr) (ts : List Addr) (z : V × V) (zs : List (V × V)) : putZ H (t :: ts) (z :: zs) = putZ (upd H t (.tup [z.1, z.2])) ts zs := rfl
theorem putZ_off {b : Addr} : ∀ (ts : List Addr) (zs : List (V × V)) (H : Hp), b ∉ ts → putZ H ts zs b = H b
  | [], _, _, _ => rfl
  | _ :: _, [], _, _ => rfl
  | t :: ts, z :: zs, H, h => by
    rw [putZ_cons, putZ_off ts zs _ (fun m => h (List.mem_cons_of_mem _ m)), upd_ne (fun e => h (by rw [e]; exact List.mem_cons_self))]
theorem putZ_at : ∀ (ts : List Addr) (zs : List (V × V)) (H : Hp), ts.length = zs.length → ts.Nodup → ∀ (j : Nat) (t : Addr), ts[j]? = some t → ∃ z, zs[j]? = some z ∧ putZ H ts zs t = some (.tup [z.1, z.2])
  | [], _, _, _, _, j, t, h => by simp at h
  | _ :: _, [], _, h, _, _, _, _ => by cases h
  | t0 :: ts, z :: zs, H, hl, hn, j, t, h => by
    have hn := List.nodup_cons.mp hn
    cases j with
    | zero =>
      have e : t0 = t := by simpa using h
      subst e
      exact ⟨z, rfl, by rw [putZ_cons, putZ_off ts zs _ hn.1, upd_same]⟩
    | succ j =>
      obtain ⟨y, e1, e2⟩ := putZ_at ts zs (upd H t0 (.tup [z.1, z.2])) (Nat.succ.inj hl) hn.2 j t (by simpa using h)
      exact ⟨y, by simpa using e1, e2⟩
section
variable {X : Cx}
theorem zip_laid {pins : List (Addr × Obj)} {σ : L2.St} {H : Hp} {s : Shared} {g : Heap} {S c : Nat} {xs ys : List V} {us vs : List Value} {acc : Array Value} {as : List Addr} (I : Inv X pins σ H s) (hx : Vals xs us) (hy : Vals ys vs) (hz : xs.length ≤ sizeLine)
    (hk : ∀ b o, s.heap.get? b = some o → g.get? b = some o) (le : s.heap.objs.size ≤ S) (hS : g.get? S = some { cls := .type "list", dict := none, data := .seq acc c, slots := #[] }) (hacc : acc.toList = as.map Value.ref) (hl : as.length = min us.length vs.length) (G : Zg g S us.toArray vs.toArray as) :
    H S = none ∧ (∀ t ∈ as, H t = none) ∧ S ∉ as ∧ as.Nodup ∧ as.length = (xs.zip ys).length ∧ Inv X pins σ (upd (putZ H as (xs.zip ys)) S (.lst (as.map V.ref))) { s with heap := g } := by
  have Sn : S ∉ as := fun m => Nat.lt_irrefl _ (G.above _ m).1
  have nd : as.Nodup := G.rise.imp fun h => Nat.ne_of_lt h
  have nw : ∀ t ∈ as, H t = none := fun t ht => I.hok.fresh (Nat.le_trans le (Nat.le_of_lt (G.above t ht).1))
  have nS : H S = none := I.hok.fresh le
  have lz : as.length = (xs.zip ys).length := by rw [hl, List.length_zip, hx.length, hy.length]
  have pz := putZ_at as (xs.zip ys) H lz nd
  have off : ∀ b, b ∉ as → b ≠ S → upd (putZ H as (xs.zip ys)) S (.lst (as.map V.ref)) b = H b := fun b h1 h2 => by rw [upd_ne h2, putZ_off as _ _ h1]
  have low : ∀ b o, s.heap.get? b = some o → b ∉ as ∧ b ≠ S := fun b o e => ⟨fun m => absurd (Heap.lt_size e) (Nat.not_lt.mpr (Nat.le_trans le (Nat.le_of_lt (G.above b m).1))), Nat.ne_of_lt (Nat.lt_of_lt_of_le (Heap.lt_size e) le)⟩
  have kp : ∀ b u, H b = some u → upd (putZ H as (xs.zip ys)) S (.lst (as.map V.ref)) b = some u := fun b u e => by
    rw [off b (fun m => by rw [nw b m] at e; cases e) (fun z => by rw [z, nS] at e; cases e)]
    exact e
  refine ⟨nS, nw, Sn, nd, lz, ?_⟩
  refine I.call' (s' := { s with heap := g }) (ch := []) rfl ⟨fun b o q _ _ _ => hk b o q, fun b o q _ _ _ => ⟨o.slots, hk b o q⟩, fun b o q n _ => ?_, fun b o q _ => ⟨o, hk b o q⟩, fun b xs q => kp b _ q, fun b o u q => kp b _ q, fun b ps q => ⟨#[], by rw [kp b _ q]; simp⟩⟩ (fun b u q => ?_) I.bare fun b z => by simp at z
  · obtain ⟨z1, z2⟩ := low b o q
    rw [off b z1 z2]
    exact n
  · by_cases hb2 : b = S
    · subst hb2
      rw [upd_same] at q
      cases q
      refine ⟨?_, acc.toList, c, by rw [hacc]; exact LiI.vals_refs as, ?_⟩
      · rw [List.length_map, hl, ← hx.length]
        omega
      · rw [Array.toArray_toList]
        exact hS
    · by_cases hb : b ∈ as
      · obtain ⟨j, ej⟩ := List.mem_iff_getElem?.mp hb
        obtain ⟨z, e1, e2⟩ := pz j b ej
        rw [upd_ne hb2, e2] at q
        cases q
        obtain ⟨u, v, f1, f2, f3⟩ := G.pairs j b ej
        obtain ⟨g1, g2⟩ := List.getElem?_zip_eq_some.mp e1
        obtain ⟨u', h1, r1⟩ := hx.get g1
        obtain ⟨v', h2, r2⟩ := hy.get g2
        have f1 : us[j]? = some u := by simpa using f1
        have f2 : vs[j]? = some v := by simpa using f2
        rw [h1] at f1
        rw [h2] at f2
        cases f1
        cases f2
        exact ⟨by show 2 ≤ sizeLine; decide, [_, _], .cons r1 (.cons r2 .nil), ⟨_, f3, rfl, _, rfl⟩⟩
      · rw [off b hb hb2] at q
        exact (I.hok b u q).stay (fun d v _ y => hk d v y) (fun d y => kp d _ y) fun d xs y => kp d _ y
/-- list(zip(e, f)), both lists -/
def tLZip (K : PySem.W.Frag) (ta : TA) : TE := fun σ H Q => ta σ H fun vs G => ∃ a b xs ys, vs = [.ref a, .ref b] ∧ SqL K G a xs ∧ SqL K G b ys ∧
  ∀ p ts, G p = none → (∀ t ∈ ts, G t = none) → p ∉ ts → ts.Nodup → ts.length = (xs.zip ys).length → Q (.ref p) (upd (putZ G ts (xs.zip ys)) p (.lst (ts.map V.ref)))
theorem pe_listZip {e f : Expr} {ta : TA} {p p2 pos pos2 : Pos} (hc : X.calm = true) (hg : Gl X "list") (hm : X.mg "list" = none) (hg2 : Gl X "zip") (hm2 : X.mg "zip" = none) (ha : PA X [e, f] ta)
    (na : starEach [.Call (.Name "zip" p2) [e, f] [] pos2] X.env = (false, eval (.Call (.Name "zip" p2) [e, f] [] pos2) X.env) :: starEach [] X.env := by rfl)
    (hs : starEach [e, f] X.env = (false, eval e X.env) :: starEach [f] X.env := by rfl) (hpl : (backTo pos2 (starEach [f] X.env)).any (·.1) = false := by rfl) :
    PE X (.Call (.Name "list" p) [.Call (.Name "zip" p2) [e, f] [] pos2] [] pos) (tLZip X.K ta) where
  run pins s σ H Q I h := by
    refine Call_ (ld_blt I hg hm boot_list (PyProof.Rows.callWith_type1 (args_cons ?_ na) na))
    refine Call_ (ld_blt I hg2 hm2 PyProof.Rows.boot_zip (PyProof.Rows.callWith_type1 (thn (ha.run pos2 pins s σ H _ I h) ?_) hs hpl))
    rintro us s1 ⟨vs, G, J, rv, a, b, xs, ys, rfl, qa, qb, q⟩
    obtain ⟨u1, u2, rfl, ra, rb⟩ := vals2 rv
    cases ra
    cases rb
    obtain ⟨ua, va, pa, za⟩ := J.list qa
    obtain ⟨ub, vb, pb, zb⟩ := J.list qb
    have la : a < s1.heap.objs.size := pa.lt
    have lb : b < s1.heap.objs.size := pb.lt
    refine call_zip_2 pa.isList pb.isList fun h' hz hTI hTO h1 h2 hsz hk => args_nil ?_
    have D := PySem.W.ktu_apart s1.heap.objs.size a b la lb
    have Z : Zs h' (s1.heap.objs.size + 4) (s1.heap.objs.size + 2) (s1.heap.objs.size + 3) s1.heap.objs.size (s1.heap.objs.size + 1) a b ua.toArray ub.toArray 0 :=
      ⟨hTI, h1, h2, pa.isList.at fun o => hk _ o, pb.isList.at fun o => hk _ o, .inl ⟨⟨_, _, hTO⟩, hz⟩⟩
    have lo : Lo (s1.heap.objs.size + 4) (s1.heap.objs.size + 2) (s1.heap.objs.size + 3) s1.heap.objs.size (s1.heap.objs.size + 1) a b h'.objs.size := by
      rw [hsz]
      exact ⟨Nat.lt_succ_self _, Nat.add_lt_add_left (by decide) _, Nat.add_lt_add_left (by decide) _, Nat.lt_add_of_pos_right (by decide), Nat.add_lt_add_left (by decide) _, Nat.lt_of_lt_of_le la (Nat.le_add_right _ _), Nat.lt_of_lt_of_le lb (Nat.le_add_right _ _)⟩
    have e1 := va.length
    refine call_list_zip (s := { s1 with heap := h' }) (us := ua.toArray) (vs := ub.toArray) (J.ok.hd hc) D lo (by rw [List.size_toArray, List.size_toArray]; omega) Z hz fun g acc c as M => ?_
    obtain ⟨k, g1, g2, g3, g4⟩ := M
    have low : ∀ (d : Addr) (o : Obj), s1.heap.get? d = some o → g.get? d = some o := fun d o e => by
      have dl : d < s1.heap.objs.size := Heap.lt_size e
      refine k d o ?_ ?_ ?_ ?_ ?_ (hk d o e)
      · exact Nat.ne_of_lt (Nat.lt_of_lt_of_le dl (Nat.le_add_right _ _))
      · exact Nat.ne_of_lt (Nat.lt_of_lt_of_le dl (Nat.le_add_right _ _))
      · exact Nat.ne_of_lt dl
      · exact Nat.ne_of_lt (Nat.lt_of_lt_of_le dl (Nat.le_add_right _ _))
      · exact Nat.ne_of_lt (Nat.lt_of_lt_of_le dl (by show _ ≤ h'.objs.size; rw [hsz]; exact Nat.le_add_right _ _))
    obtain ⟨f1, f2, f3, f4, f5, f6⟩ := zip_laid (S := h'.objs.size) J va vb (by omega) low (by rw [hsz]; exact Nat.le_add_right _ _) g1 g2 (by simpa using g3) g4
    exact ⟨.ref h'.objs.size, _, f6, rfl, q _ as f1 f2 f3 f4 f5⟩
end
end DL
set_option Elab.async false
set_option linter.all false
set_option autoImplicit false
set_option maxRecDepth 100000
set_option maxHeartbeats 4000000
/-! FLa: readings as functions, part one: outcomes, expressions. -/
namespace DL
open PySem PySem.Spec PyProof.Rows L2
/-- an equation that is not used by unfolding -/
theorem rfl2 {α : Sort _} {a b : α} (h : a = b) : a = b := h
/-- how a part of a program ends: not told, raised, with a value -/
inductive Out (α : Type) where
  | bad
  | exc (x : Exn)
  | ok (a : α)
namespace Out
variable {α β γ δ : Type}
def bind (m : Out α) (k : α → Out β) : Out β := match m with
  | .ok a => k a
  | .exc x => .exc x
  | .bad => .bad
def bind2 (m : Out (α × β)) (k : α → β → Out γ) : Out γ := match m with
  | .ok (a, b) => k a b
  | .exc x => .exc x
  | .bad => .bad
def opt (o : Option α) (k : α → Out β) : Out β := match o with
  | some a => k a
  | none => .bad
def need (c : Bool) (k : Out β) : Out β := match c with
  | true => k
  | false => .bad
def wp (PX : Exn → Prop) (m : Out α) (Q : α → Prop) : Prop := match m with
  | .ok a => Q a
  | .exc x => PX x
  | .bad => False
def wp2 (PX : Exn → Prop) (m : Out (α × β)) (Q : α → β → Prop) : Prop := match m with
  | .ok (a, b) => Q a b
  | .exc x => PX x
  | .bad => False
def sat (m : Out α) (Q : α → Prop) : Prop := ∃ a, m = .ok a ∧ Q a
theorem bind_ok (a : α) (k : α → Out β) : bind (.ok a) k = k a := rfl2 rfl
theorem bind2_ok (a : α) (b : β) (k : α → β → Out γ) : bind2 (.ok (a, b)) k = k a b := rfl2 rfl
theorem bind_exc (x : Exn) (k : α → Out β) : bind (.exc x) k = .exc x := rfl2 rfl
theorem bind2_exc (x : Exn) (k : α → β → Out γ) : bind2 (.exc x) k = .exc x := rfl2 rfl
theorem opt_some (a : α) (k : α → Out β) : opt (some a) k = k a := rfl2 rfl
theorem need_true {k : Out β} : need true k = k := rfl2 rfl
theorem bind_bind {m : Out α} {k : α → Out β} {l : β → Out γ} : bind (bind m k) l = bind m fun a => bind (k a) l := by cases m <;> rfl
theorem bind_bind2 {m : Out (α × β)} {k : α → β → Out γ} {l : γ → Out δ} : bind (bind2 m k) l = bind2 m fun a b => bind (k a b) l := by cases m <;> rfl
theorem bind2_bind {m : Out α} {k : α → Out (β × γ)} {l : β → γ → Out δ} : bind2 (bind m k) l = bind m fun a => bind2 (k a) l := by cases m <;> rfl
theorem wp_bind {PX : Exn → Prop} {m : Out α} {k : α → Out β} {Q : β → Prop} (h : (bind m k).wp PX Q) : m.wp PX fun a => (k a).wp PX Q := by cases m <;> exact h
theorem wp2_bind2 {PX : Exn → Prop} {m : Out (α × β)} {k : α → β → Out (γ × δ)} {Q : γ → δ → Prop} (h : (bind2 m k).wp2 PX Q) : m.wp2 PX fun a b => (k a b).wp2 PX Q := by cases m <;> exact h
theorem wp2_bind {PX : Exn → Prop} {m : Out α} {k : α → Out (γ × δ)} {Q : γ → δ → Prop} (h : (bind m k).wp2 PX Q) : m.wp PX fun a => (k a).wp2 PX Q := by cases m <;> exact h
theorem wp_bind2 {PX : Exn → Prop} {m : Out (α × β)} {k : α → β → Out γ} {Q : γ → Prop} (h : (bind2 m k).wp PX Q) : m.wp2 PX fun a b => (k a b).wp PX Q := by cases m <;> exact h
theorem wp_mono {PX : Exn → Prop} {m : Out α} {Q R : α → Prop} (h : m.wp PX Q) (k : ∀ a, Q a → R a) : m.wp PX R := by
  cases m with
  | ok a => exact k a h
  | exc x => exact h
  | bad => exact h
theorem wp2_mono {PX : Exn → Prop} {m : Out (α × β)} {Q R : α → β → Prop} (h : m.wp2 PX Q) (k : ∀ a b, Q a b → R a b) : m.wp2 PX R := by
  cases m with
  | ok a => exact k a.1 a.2 h
  | exc x => exact h
  | bad => exact h
theorem wp2_opt {PX : Exn → Prop} {o : Option α} {k : α → Out (γ × δ)} {Q : γ → δ → Prop} (h : (opt o k).wp2 PX Q) : ∃ a, o = some a ∧ (k a).wp2 PX Q := by
  cases o with
  | none => exact h.elim
  | some a => exact ⟨a, rfl, h⟩
theorem wp_opt {PX : Exn → Prop} {o : Option α} {k : α → Out γ} {Q : γ → Prop} (h : (opt o k).wp PX Q) : ∃ a, o = some a ∧ (k a).wp PX Q := by
  cases o with
  | none => exact h.elim
  | some a => exact ⟨a, rfl, h⟩
theorem wp2_need {PX : Exn → Prop} {c : Bool} {k : Out (γ × δ)} {Q : γ → δ → Prop} (h : (need c k).wp2 PX Q) : c = true ∧ k.wp2 PX Q := by
  cases c with
  | true => exact ⟨rfl, h⟩
  | false => exact h.elim
theorem wp_need {PX : Exn → Prop} {c : Bool} {k : Out γ} {Q : γ → Prop} (h : (need c k).wp PX Q) : c = true ∧ k.wp PX Q := by
  cases c with
  | true => exact ⟨rfl, h⟩
  | false => exact h.elim
theorem sat_ok {a : α} {Q : α → Prop} : (ok a).sat Q ↔ Q a := ⟨fun ⟨_, e, h⟩ => by cases e; exact h, fun h => ⟨a, rfl, h⟩⟩
theorem sat_bind {m : Out α} {k : α → Out β} {R : α → Prop} {Q : β → Prop} (h : m.sat R) (hk : ∀ a, R a → (k a).sat Q) : (bind m k).sat Q := by
  obtain ⟨a, rfl, r⟩ := h
  exact hk a r
theorem sat_bind2 {m : Out (α × β)} {k : α → β → Out γ} {R : α × β → Prop} {Q : γ → Prop} (h : m.sat R) (hk : ∀ a b, R (a, b) → (k a b).sat Q) : (bind2 m k).sat Q := by
  obtain ⟨⟨a, b⟩, rfl, r⟩ := h
  exact hk a b r
theorem sat_mono {m : Out α} {R Q : α → Prop} (h : m.sat R) (hk : ∀ a, R a → Q a) : m.sat Q := by
  obtain ⟨a, e, r⟩ := h
  exact ⟨a, e, hk a r⟩
theorem sat_eq {m : Out α} {a : α} (h : m.sat fun x => x = a) : m = .ok a := by
  obtain ⟨b, e, rfl⟩ := h
  exact e
end Out
/-- a test as an option -/
def onee {α : Type} (c : Bool) (k : Option α) : Option α := match c with
  | true => k
  | false => none
theorem onee_true {α : Type} {k : Option α} : onee true k = k := rfl2 rfl
theorem onee_some {α : Type} {c : Bool} {k : Option α} {a : α} (h : onee c k = some a) : c = true ∧ k = some a := by
  cases c with
  | true => exact ⟨rfl, h⟩
  | false => cases h
/-- the model's bounds -/
def lenOk (n : Nat) : Bool := Nat.ble n 16777216
def lenLt (n : Nat) : Bool := Nat.blt n 16777216
def natB (m n : Nat) : Bool := Nat.beq m n
def posB (j : Int) : Bool := decide (0 < j)
def rngB (j : Int) : Bool := decide (j < 4611686018427387904 ∧ -4611686018427387904 ≤ j)
def dmB (j : Int) : Bool := decide (0 < j ∧ j < 1073741824)
def powB (i j : Int) : Bool := decide (0 ≤ j ∧ j ≤ 1000 ∧ i.natAbs < 18446744073709551616)
def repTB (n : Nat) (k : Int) : Bool := decide (0 < n ∧ 2 ≤ k ∧ k ≤ 1000 ∧ n ≤ 1000)
def repLB (n : Nat) (k : Int) : Bool := decide (-9223372036854775808 ≤ k ∧ k < 9223372036854775808 ∧ n * k.toNat ≤ 16777216)
theorem lenOk_iff {n : Nat} : lenOk n = true ↔ n ≤ 16777216 := Iff.of_eq Nat.ble_eq
theorem lenLt_iff {n : Nat} : lenLt n = true ↔ n < 16777216 := Iff.of_eq Nat.ble_eq
theorem natB_iff {m n : Nat} : natB m n = true ↔ m = n := Iff.of_eq Nat.beq_eq
theorem lenOk_t {n : Nat} (h : n ≤ 16777216) : lenOk n = true := lenOk_iff.mpr h
theorem lenLt_t {n : Nat} (h : n < 16777216) : lenLt n = true := lenLt_iff.mpr h
theorem natB_t {m n : Nat} (h : m = n) : natB m n = true := natB_iff.mpr h
theorem posB_t {j : Int} (h : 0 < j) : posB j = true := decide_eq_true h
theorem rngB_t {j : Int} (h : j < 4611686018427387904) (h2 : -4611686018427387904 ≤ j) : rngB j = true := decide_eq_true ⟨h, h2⟩
theorem dmB_t {j : Int} (h : 0 < j) (h2 : j < 1073741824) : dmB j = true := decide_eq_true ⟨h, h2⟩
theorem powB_t {i j : Int} (h : 0 ≤ j) (h2 : j ≤ 1000) (h3 : -18446744073709551616 < i) (h4 : i < 18446744073709551616) : powB i j = true := decide_eq_true ⟨h, h2, by omega⟩
theorem repTB_t {n : Nat} {k : Int} (h : 0 < n) (h1 : 2 ≤ k) (h2 : k ≤ 1000) (h3 : n ≤ 1000) : repTB n k = true := decide_eq_true ⟨h, h1, h2, h3⟩
theorem repLB_t {n : Nat} {k : Int} (h : -9223372036854775808 ≤ k) (h1 : k < 9223372036854775808) (h2 : n * k.toNat ≤ 16777216) : repLB n k = true := decide_eq_true ⟨h, h1, h2⟩
open Out

abbrev FT := DEnv → Out (Vl × DEnv)
abbrev FTT := DEnv → Out (Bool × DEnv)
abbrev FTF := DEnv → Out (List PyData × DEnv)
abbrev FTA := DEnv → Out (List Vl × DEnv)
abbrev FTO := DEnv → Out (Option Int × DEnv)
def ofT {α : Type} (PX : Exn → Prop) (f : DEnv → Out (α × DEnv)) (r : DEnv) (P : α → DEnv → Prop) : Prop := (f r).wp2 PX P
abbrev FE (PX : Exn → Prop) (E : Ent) (X : Cx) (e : Expr) (f : FT) : Prop := DE E X e (ofT PX f)
abbrev FTe (PX : Exn → Prop) (E : Ent) (X : Cx) (e : Expr) (f : FTT) : Prop := DTe E X e (ofT PX f)
abbrev FW (PX : Exn → Prop) (E : Ent) (X : Cx) (e : Expr) (f : FTT) : Prop := DW E X e (ofT PX f)
abbrev FF (PX : Exn → Prop) (E : Ent) (X : Cx) (es : List Expr) (f : FTF) : Prop := DF E X es (ofT PX f)
abbrev FA (PX : Exn → Prop) (E : Ent) (X : Cx) (es : List Expr) (f : FTA) : Prop := DA E X es (ofT PX f)
abbrev FM (PX : Exn → Prop) (E : Ent) (X : Cx) (es : List Expr) (f : FTA) : Prop := PA X es (tDM X.K E (ofT PX f))
section
variable {PX : Exn → Prop} {X : Cx} {E : Ent} {e a b c : Expr} {es rest : List Expr} {pos p p2 : Pos} {fa fb fc : FT} {ta tb : FTT} {ga : FTF} {ha : FTA} {K : PySem.W.Frag} {F H : Hp} {st : St} {r : DEnv}
theorem fe_of {f : FT} {dt : DT} (h : DE E X e dt) (k : ∀ r P, ofT PX f r P → dt r P) : FE PX E X e f := wkE h fun st H Q ⟨F, r, P, R, p, q⟩ => ⟨F, r, P, R, k r P p, q⟩
theorem fte_of {f : FTT} {dt : DTT} (h : DTe E X e dt) (k : ∀ r P, ofT PX f r P → dt r P) : FTe PX E X e f := wkT h fun st H Q ⟨F, r, P, R, p, q⟩ => ⟨F, r, P, R, k r P p, q⟩
theorem fw_of {f : FTT} {dt : DTT} (h : DW E X e dt) (k : ∀ r P, ofT PX f r P → dt r P) : FW PX E X e f := wkW h fun st H Q ⟨F, r, P, R, p, q⟩ => ⟨F, r, P, R, k r P p, q⟩
theorem ff_of {f : FTF} {dt : DTF} (h : DF E X es dt) (k : ∀ r P, ofT PX f r P → dt r P) : FF PX E X es f := wkA h fun st H Q ⟨F, r, P, R, p, q⟩ => ⟨F, r, P, R, k r P p, q⟩
theorem fa_of {f : FTA} {dt : DTA} (h : DA E X es dt) (k : ∀ r P, ofT PX f r P → dt r P) : FA PX E X es f := wkA h fun st H Q ⟨F, r, P, R, p, q⟩ => ⟨F, r, P, R, k r P p, q⟩
theorem fm_of {f : FTA} {dt : DTA} (h : PA X es (tDM X.K E dt)) (k : ∀ r P, ofT PX f r P → dt r P) : FM PX E X es f := wkA h fun st H Q ⟨F, r, P, R, p, q⟩ => ⟨F, r, P, R, k r P p, q⟩

/-! ### names, constants -/
def varK (i : Nat) (r : DEnv) (o : Option (Option Sl)) : Out (Vl × DEnv) := match o with
  | some (some s) => .ok (vlOf i s, r)
  | _ => .bad
def qVar (i : Nat) (r : DEnv) : Out (Vl × DEnv) := varK i r r[i]?
theorem qVar_eq (i : Nat) (r : DEnv) : qVar i r = varK i r r[i]? := rfl2 rfl
theorem varK_d (i : Nat) (r : DEnv) (x : PyData) : varK i r (some (some (.d x))) = .ok (.d x, r) := rfl2 rfl
theorem varK_l (i : Nat) (r : DEnv) (x : PyData) : varK i r (some (some (.l x))) = .ok (.v i, r) := rfl2 rfl
theorem varK_b (i : Nat) (r : DEnv) (x : PyData) : varK i r (some (some (.b x))) = .ok (.v i, r) := rfl2 rfl
theorem qe_var {i : Nat} (h : PE X e (tVar i)) : FE PX E X e (qVar i) := fe_of (de_var h) fun r P p => by
  unfold ofT qVar varK at p
  split at p
  · rename_i s e
    exact ⟨s, e, p⟩
  · exact p.elim
def qC (x : PyData) (r : DEnv) : Out (Vl × DEnv) := .ok (.d x, r)
theorem qC_eq (x : PyData) (r : DEnv) : qC x r = .ok (.d x, r) := rfl2 rfl
theorem qe_c {v : V} {x : PyData} (h : PE X e (tC v)) (hx : ∀ F, Rp X.K F v x) : FE PX E X e (qC x) := fe_of (de_c h hx) fun r P p => p
theorem qe_int {i j pos} : FE PX E X (.Constant (.int i) j pos) (qC (.int i)) := qe_c pe_int fun _ => .int i
theorem qe_bl {i j pos} : FE PX E X (.Constant (.bool i) j pos) (qC (.bool i)) := qe_c pe_bl fun _ => .bl i
theorem qe_non {j pos} : FE PX E X (.Constant .none j pos) (qC .none) := qe_c pe_non fun _ => .non
theorem qe_str {i j pos} : FE PX E X (.Constant (.str i) j pos) (qC (.str i)) := qe_c pe_str fun _ => .str i
def fzV (i : Nat) (r : DEnv) (o : Option (Option Sl)) : Out (Vl × DEnv) := match o with
  | some (some (.l x)) => .ok (.d x, setD r i x)
  | some (some (.d x)) => .ok (.d x, r)
  | _ => .bad
def fzK (s : Vl) (r : DEnv) : Out (Vl × DEnv) := match s with
  | .d x => .ok (.d x, r)
  | .n x => .ok (.d x, r)
  | .v i => fzV i r r[i]?
theorem fzK_d (x : PyData) (r : DEnv) : fzK (.d x) r = .ok (.d x, r) := rfl2 rfl
theorem fzK_n (x : PyData) (r : DEnv) : fzK (.n x) r = .ok (.d x, r) := rfl2 rfl
theorem fzK_v (i : Nat) (r : DEnv) : fzK (.v i) r = fzV i r r[i]? := rfl2 rfl
theorem fzV_l (i : Nat) (r : DEnv) (x : PyData) : fzV i r (some (some (.l x))) = .ok (.d x, r.set i (some (.d x))) := rfl2 rfl
theorem fzV_d (i : Nat) (r : DEnv) (x : PyData) : fzV i r (some (some (.d x))) = .ok (.d x, r) := rfl2 rfl
def qFz (f : FT) (r : DEnv) : Out (Vl × DEnv) := bind2 (f r) fzK
theorem qFz_eq (f : FT) (r : DEnv) : qFz f r = bind2 (f r) fzK := rfl2 rfl
theorem qFz_d {f : FT} {r : DEnv} {P : Vl → DEnv → Prop} (p : ofT PX (qFz f) r P) : dFz (ofT PX f) r P := by
  unfold ofT qFz at p
  refine wp2_mono (wp2_bind2 p) fun s r' q => ?_
  cases s with
  | d x => exact q
  | n x => exact q
  | v i =>
    have q : (match r'[i]? with
      | some (some (.l x)) => .ok (.d x, setD r' i x)
      | some (some (.d x)) => .ok (.d x, r')
      | _ => .bad : Out (Vl × DEnv)).wp2 PX P := q
    show match r'[i]? with
    | some (some (.l x)) => P (.d x) (setD r' i x)
    | some (some (.d x)) => P (.d x) r'
    | _ => False
    split at q
    · exact q
    · exact q
    · exact q.elim
theorem qe_fz (h : FE PX E X e fa) : FE PX E X e (qFz fa) := fe_of (de_fz h) fun r P p => qFz_d p

/-! ### operators -/
abbrev Op2 := PyData → PyData → Option Vl
def opK3 (r : DEnv) (w : Vl) : Out (Vl × DEnv) := .ok (w, r)
def opK2b (op : Op2) (r : DEnv) (x y : PyData) : Out (Vl × DEnv) := opt (op x y) (opK3 r)
def opK2a (op : Op2) (t : Vl) (r : DEnv) (x : PyData) : Out (Vl × DEnv) := opt (rd r t) (opK2b op r x)
def opK2 (op : Op2) (s t : Vl) (r : DEnv) : Out (Vl × DEnv) := opt (rd r s) (opK2a op t r)
def opK1 (op : Op2) (fb : FT) (s : Vl) (r : DEnv) : Out (Vl × DEnv) := bind2 (fb r) (opK2 op s)
def qOp (op : Op2) (fa fb : FT) (r : DEnv) : Out (Vl × DEnv) := bind2 (fa r) (opK1 op fb)
theorem opK3_eq (r : DEnv) (w : Vl) : opK3 r w = .ok (w, r) := rfl2 rfl
theorem opK2b_eq (op : Op2) (r : DEnv) (x y : PyData) : opK2b op r x y = opt (op x y) (opK3 r) := rfl2 rfl
theorem opK2a_eq (op : Op2) (t : Vl) (r : DEnv) (x : PyData) : opK2a op t r x = opt (rd r t) (opK2b op r x) := rfl2 rfl
theorem opK2_eq (op : Op2) (s t : Vl) (r : DEnv) : opK2 op s t r = opt (rd r s) (opK2a op t r) := rfl2 rfl
def slotO : Option (Option Sl) → Option PyData
  | some (some s) => some s.it
  | _ => none
theorem slotD_eq (r : DEnv) (i : Nat) : slotD r i = slotO r[i]? := rfl2 rfl
theorem slotO_eq (s : Sl) : slotO (some (some s)) = some s.it := rfl2 rfl
theorem rd_d (r : DEnv) (x : PyData) : rd r (.d x) = some x := rfl2 rfl
theorem rd_n (r : DEnv) (x : PyData) : rd r (.n x) = some x := rfl2 rfl
theorem rd_v (r : DEnv) (i : Nat) : rd r (.v i) = slotO r[i]? := rfl2 rfl
theorem it_d (x : PyData) : (Sl.d x).it = x := rfl2 rfl
theorem it_l (x : PyData) : (Sl.l x).it = x := rfl2 rfl
theorem it_b (x : PyData) : (Sl.b x).it = x := rfl2 rfl
theorem opK1_eq (op : Op2) (fb : FT) (s : Vl) (r : DEnv) : opK1 op fb s r = bind2 (fb r) (opK2 op s) := rfl2 rfl
theorem qOp_eq (op : Op2) (fa fb : FT) (r : DEnv) : qOp op fa fb r = bind2 (fa r) (opK1 op fb) := rfl2 rfl
theorem qOp_cases {op : Op2} {r : DEnv} {P : Vl → DEnv → Prop} (p : ofT PX (qOp op fa fb) r P) : (ofT PX fa) r fun s r1 => (ofT PX fb) r1 fun t r2 => ∃ x y w, rd r2 s = some x ∧ rd r2 t = some y ∧ op x y = some w ∧ P w r2 := by
  unfold ofT qOp at p
  refine wp2_mono (wp2_bind2 p) fun s r1 q => ?_
  unfold opK1 at q
  refine wp2_mono (wp2_bind2 q) fun t r2 q => ?_
  unfold opK2 at q
  obtain ⟨x, e1, q⟩ := wp2_opt q
  obtain ⟨y, e2, q⟩ := wp2_opt q
  obtain ⟨w, e3, q⟩ := wp2_opt q
  exact ⟨x, y, w, e1, e2, e3, q⟩
theorem ofT_mono {α : Type} {f : DEnv → Out (α × DEnv)} {r : DEnv} {P Q : α → DEnv → Prop} (h : ofT PX f r P) (k : ∀ a r, P a r → Q a r) : ofT PX f r Q := wp2_mono h k
theorem qe_opV {B : PyData → PyData → Vl → Prop} {op : Op2} (h : DE E X e (dOpV B (ofT PX fa) (ofT PX fb))) (hop : ∀ x y w, op x y = some w → B x y w) : FE PX E X e (qOp op fa fb) := fe_of h fun r P p =>
  ofT_mono (qOp_cases p) fun s r1 q => ofT_mono q fun t r2 ⟨x, y, w, e1, e2, e3, q⟩ => ⟨x, y, w, e1, e2, hop _ _ _ e3, q⟩
theorem qe_opD {B : PyData → PyData → PyData → Prop} {op : Op2} (h : DE E X e (dOp B (ofT PX fa) (ofT PX fb))) (hop : ∀ x y w, op x y = some w → ∃ z, w = .d z ∧ B x y z) : FE PX E X e (qOp op fa fb) := fe_of h fun r P p =>
  ofT_mono (qOp_cases p) fun s r1 q => ofT_mono q fun t r2 ⟨x, y, w, e1, e2, e3, q⟩ => by
    obtain ⟨z, rfl, hb⟩ := hop _ _ _ e3
    exact ⟨x, y, z, e1, e2, hb, q⟩
/-- numbers that may be multiplied -/
def Hg (i : Int) : Prop := -(10 ^ 200) < i ∧ i < 10 ^ 200
instance (i : Int) : Decidable (Hg i) := inferInstanceAs (Decidable (_ ∧ _))
/-- one of both is small, or both are no greater than told -/
def MulOk (i j : Int) : Prop := (Hg i ∧ Hg j) ∨ (-(2 ^ 64) < i ∧ i < 2 ^ 64) ∨ (-(2 ^ 64) < j ∧ j < 2 ^ 64)
instance (i j : Int) : Decidable (MulOk i j) := inferInstanceAs (Decidable (_ ∨ _))
def mulB (i j : Int) : Bool := decide (MulOk i j)
def hgB (i : Int) : Bool := decide (Hg i)
theorem mulOk_1 {i j : Int} (h1 : -(2 ^ 64) < i) (h2 : i < 2 ^ 64) : mulB i j = true := decide_eq_true (.inr (.inl ⟨h1, h2⟩))
theorem mulOk_2 {i j : Int} (h1 : -(2 ^ 64) < j) (h2 : j < 2 ^ 64) : mulB i j = true := decide_eq_true (.inr (.inr ⟨h1, h2⟩))
theorem mulOk_3 {i j : Int} (h1 : -(10 ^ 200) < i) (h2 : i < 10 ^ 200) (h3 : -(10 ^ 200) < j) (h4 : j < 10 ^ 200) : mulB i j = true := decide_eq_true (.inl ⟨⟨h1, h2⟩, h3, h4⟩)
theorem hg_true {i : Int} (h1 : -(10 ^ 200) < i) (h2 : i < 10 ^ 200) : hgB i = true := decide_eq_true ⟨h1, h2⟩
theorem hg_log {i : Int} (h : Hg i) : i.natAbs.log2 < 1000 := by
  obtain ⟨h1, h2⟩ := h
  have : i.natAbs < 2 ^ 1000 := Nat.lt_of_lt_of_le (show i.natAbs < 10 ^ 200 by omega) (by decide +kernel)
  by_cases z : i.natAbs = 0
  · rw [z]; decide
  · exact (Nat.log2_lt z).mpr this
def opAdd (x y : PyData) : Option Vl := match x, y with
  | .int i, .int j => some (.d (.int (i + j)))
  | .str s, .str t => onee (lenOk (s.length + t.length)) (some (.d (.str (s ++ t))))
  | .tuple xs, .tuple ys => onee (lenOk (xs.length + ys.length)) (some (.d (.tuple (xs ++ ys))))
  | .list xs, .list ys => onee (lenOk (xs.length + ys.length)) (some (.n (.list (xs ++ ys))))
  | _, _ => none
theorem opAdd_int (i j : Int) : opAdd (.int i) (.int j) = some (.d (.int (i + j))) := rfl2 rfl
theorem opAdd_str {s t : Str} : opAdd (.str s) (.str t) = onee (lenOk (s.length + t.length)) (some (.d (.str (s ++ t)))) := rfl2 rfl
theorem opAdd_tup {xs ys : List PyData} : opAdd (.tuple xs) (.tuple ys) = onee (lenOk (xs.length + ys.length)) (some (.d (.tuple (xs ++ ys)))) := rfl2 rfl
theorem opAdd_lst {xs ys : List PyData} : opAdd (.list xs) (.list ys) = onee (lenOk (xs.length + ys.length)) (some (.n (.list (xs ++ ys)))) := rfl2 rfl
theorem opAdd_ok : ∀ x y w, opAdd x y = some w → bAddU x y w := by
  intro x y w h
  unfold opAdd at h
  split at h
  · exact (Option.some.inj h).symm
  · obtain ⟨h1, h2⟩ := onee_some h; exact ⟨lenOk_iff.mp h1, (Option.some.inj h2).symm⟩
  · obtain ⟨h1, h2⟩ := onee_some h; exact ⟨lenOk_iff.mp h1, (Option.some.inj h2).symm⟩
  · obtain ⟨h1, h2⟩ := onee_some h; exact ⟨lenOk_iff.mp h1, (Option.some.inj h2).symm⟩
  · cases h
theorem qe_add (ha : FE PX E X a fa) (hb : FE PX E X b fb) : FE PX E X (.BinOp a .Add b pos) (qOp opAdd fa fb) := qe_opV (de_addU ha hb) opAdd_ok
def opSub (x y : PyData) : Option Vl := match x, y with
  | .int i, .int j => some (.d (.int (i - j)))
  | _, _ => none
theorem opSub_int (i j : Int) : opSub (.int i) (.int j) = some (.d (.int (i - j))) := rfl2 rfl
theorem opSub_ok : ∀ x y w, opSub x y = some w → ∃ z, w = .d z ∧ bSub x y z := fun x y w h => by
  unfold opSub at h
  split at h
  · cases h; exact ⟨_, rfl, _, _, rfl, rfl, trivial, rfl⟩
  · cases h
theorem qe_sub (ha : FE PX E X a fa) (hb : FE PX E X b fb) : FE PX E X (.BinOp a .Sub b pos) (qOp opSub fa fb) := qe_opD (de_sub ha hb) opSub_ok
def opMul (x y : PyData) : Option Vl := match x, y with
  | .int i, .int j => onee (mulB i j) (some (.d (.int (i * j))))
  | _, _ => none
theorem opMul_int {i j : Int} : opMul (.int i) (.int j) = onee (mulB i j) (some (.d (.int (i * j)))) := rfl2 rfl
theorem qe_mul (ha : FE PX E X a fa) (hb : FE PX E X b fb) : FE PX E X (.BinOp a .Mult b pos) (qOp opMul fa fb) := qe_opD (de_mulU ha hb) fun x y w h => by
  unfold opMul at h
  split at h
  · obtain ⟨hm, h3⟩ := onee_some h
    cases h3
    rcases of_decide_eq_true hm with ⟨h1, h2⟩ | hm
    · have := hg_log h1
      have := hg_log h2
      exact ⟨_, rfl, _, _, rfl, rfl, .inr (by unfold CMulW; omega), rfl⟩
    · exact ⟨_, rfl, _, _, rfl, rfl, .inl hm, rfl⟩
  · cases h
def opMod (x y : PyData) : Option Vl := match x, y with
  | .int i, .int j => onee (posB j) (some (.d (.int (i % j))))
  | _, _ => none
theorem opMod_int {i j : Int} : opMod (.int i) (.int j) = onee (posB j) (some (.d (.int (i % j)))) := rfl2 rfl
theorem qe_mod (ha : FE PX E X a fa) (hb : FE PX E X b fb) : FE PX E X (.BinOp a .Mod b pos) (qOp opMod fa fb) := qe_opD (de_modP ha hb) fun x y w h => by
  unfold opMod at h
  split at h
  · obtain ⟨h1, h3⟩ := onee_some h
    cases h3
    exact ⟨_, rfl, _, _, rfl, rfl, of_decide_eq_true h1, rfl⟩
  · cases h
def opDiv (x y : PyData) : Option Vl := match x, y with
  | .int i, .int j => onee (posB j && hgB j) (some (.d (.int (i / j))))
  | _, _ => none
theorem opDiv_int {i j : Int} : opDiv (.int i) (.int j) = onee (posB j && hgB j) (some (.d (.int (i / j)))) := rfl2 rfl
theorem qe_div (ha : FE PX E X a fa) (hb : FE PX E X b fb) : FE PX E X (.BinOp a .FloorDiv b pos) (qOp opDiv fa fb) := qe_opD (de_divP ha hb) fun x y w h => by
  unfold opDiv at h
  split at h
  · obtain ⟨hh, h3⟩ := onee_some h
    cases h3
    rw [Bool.and_eq_true] at hh
    have h1 := of_decide_eq_true hh.1
    have := hg_log (of_decide_eq_true hh.2)
    exact ⟨_, rfl, _, _, rfl, rfl, h1, .inr ⟨h1, by omega⟩, rfl⟩
  · cases h
def opPow (x y : PyData) : Option Vl := match x, y with
  | .int i, .int j => onee (powB i j) (some (.d (.int (i ^ j.toNat))))
  | _, _ => none
theorem opPow_int {i j : Int} : opPow (.int i) (.int j) = onee (powB i j) (some (.d (.int (i ^ j.toNat)))) := rfl2 rfl
theorem qe_pow (ha : FE PX E X a fa) (hb : FE PX E X b fb) : FE PX E X (.BinOp a .Pow b pos) (qOp opPow fa fb) := qe_opD (de_pow ha hb) fun x y w h => by
  unfold opPow at h
  split at h
  · obtain ⟨hh, h3⟩ := onee_some h
    cases h3
    obtain ⟨h1, h2, h4⟩ := of_decide_eq_true hh
    exact ⟨_, rfl, _, _, rfl, rfl, ⟨h1, by omega, h4⟩, rfl⟩
  · cases h
def opRepT (x y : PyData) : Option Vl := match x, y with
  | .tuple xs, .int k => onee (repTB xs.length k) (some (.d (.tuple (List.replicate k.toNat xs).flatten)))
  | _, _ => none
theorem opRepT_tup {xs : List PyData} {k : Int} : opRepT (.tuple xs) (.int k) = onee (repTB xs.length k) (some (.d (.tuple (List.replicate k.toNat xs).flatten))) := rfl2 rfl
theorem qe_repT (ha : FE PX E X a fa) (hb : FE PX E X b fb) : FE PX E X (.BinOp a .Mult b pos) (qOp opRepT fa fb) := qe_opD (de_repT ha hb) fun x y w h => by
  unfold opRepT at h
  split at h
  · obtain ⟨hh, h3⟩ := onee_some h
    cases h3
    obtain ⟨h1, h2, h4, h5⟩ := of_decide_eq_true hh
    exact ⟨_, rfl, _, _, rfl, rfl, fun e => by rw [e] at h1; exact absurd h1 (by decide), h2, h4, h5, rfl⟩
  · cases h
def repK3 (xs : List PyData) (r : DEnv) (y : PyData) : Out (Vl × DEnv) := match y with
  | .int k => need (repLB xs.length k) (.ok (.n (.list (List.replicate k.toNat xs).flatten), r))
  | _ => .bad
def repK2 (xs : List PyData) (t : Vl) (r : DEnv) : Out (Vl × DEnv) := opt (rd r t) (repK3 xs r)
def repK1 (fb : FT) (s : Vl) (r : DEnv) : Out (Vl × DEnv) := match s with
  | .n (.list xs) => bind2 (fb r) (repK2 xs)
  | _ => .bad
def qRep (fa fb : FT) (r : DEnv) : Out (Vl × DEnv) := bind2 (fa r) (repK1 fb)
theorem repK3_eq (xs : List PyData) (r : DEnv) (k : Int) : repK3 xs r (.int k) = need (repLB xs.length k) (.ok (.n (.list (List.replicate k.toNat xs).flatten), r)) := rfl2 rfl
theorem repK2_eq (xs : List PyData) (t : Vl) (r : DEnv) : repK2 xs t r = opt (rd r t) (repK3 xs r) := rfl2 rfl
theorem repK1_eq (fb : FT) (xs : List PyData) (r : DEnv) : repK1 fb (.n (.list xs)) r = bind2 (fb r) (repK2 xs) := rfl2 rfl
theorem qRep_eq (fa fb : FT) (r : DEnv) : qRep fa fb r = bind2 (fa r) (repK1 fb) := rfl2 rfl
theorem qe_rep (ha : FE PX E X a fa) (hb : FE PX E X b fb) : FE PX E X (.BinOp a .Mult b pos) (qRep fa fb) := fe_of (de_rep ha hb) fun r P p => by
  unfold ofT qRep at p
  refine wp2_mono (wp2_bind2 p) fun s r1 q => ?_
  unfold repK1 at q
  split at q
  · rename_i xs
    refine ⟨xs, rfl, wp2_mono (wp2_bind2 q) fun t r2 q => ?_⟩
    unfold repK2 at q
    obtain ⟨y, e2, q⟩ := wp2_opt q
    unfold repK3 at q
    split at q
    · rename_i k
      obtain ⟨hh, q⟩ := wp2_need q
      obtain ⟨h1, h2, h3⟩ := of_decide_eq_true hh
      exact ⟨_, e2, h1, h2, h3, q⟩
    · exact q.elim
  · exact q.elim
end
end DL
set_option Elab.async false
set_option linter.all false
set_option autoImplicit false
set_option maxRecDepth 100000
set_option maxHeartbeats 4000000
/-! FLb: readings as functions, part two: comparisons, tests, displays, calls of what is built in. -/
namespace DL
open PySem PySem.Spec PyProof.Rows L2 Out
section
variable {PX : Exn → Prop} {X : Cx} {E : Ent} {e a b c : Expr} {es rest : List Expr} {pos p p2 apos cpos : Pos} {fa fb fc : FT} {ta tb : FTT} {ga : FTF} {ha : FTA} {K : PySem.W.Frag} {F H : Hp} {st : St} {r : DEnv}
/-! ### comparisons -/
/-- data that may be compared -/
def okE (x : PyData) : Bool := noDic x && SeqAt.shaped x
def notN : PyData → Bool
  | .none => false
  | _ => true
def cmpB (x y : PyData) : Bool := PySem.W.alike x y && notN x && okE x && okE y
/-- the kit's comparison of data, by values -/
def rCmp (K : PySem.W.Frag) (g : PyData → PyData → Bool) : R2 := fun x y H Q => ∃ d e, Dp K H x d ∧ Dp K H y e ∧ PySem.W.alike d e = true ∧ d ≠ .none ∧ SeqAt.shaped d = true ∧ Q (.bl (g d e)) H
theorem cmp_room {A : Around} {d e : PyData} (hu : A.units + 66 < cLine) (h : SeqAt.shaped d = true) : A.units + min d.depth e.depth < cLine := by
  unfold SeqAt.shaped at h
  rw [Bool.and_eq_true, decide_eq_true_eq] at h
  have := Nat.min_le_left d.depth e.depth
  omega
theorem op_ltA (hu : X.A.units + 66 < cLine) : OpR X (compareOp .Lt) (rCmp X.K PySem.W.dataLt) := by
  intro pins s σ H x y v u Q I rx ry h
  obtain ⟨d, e, hd, he, ha, hn, sd, q⟩ := h
  obtain ⟨as, r1⟩ := Dp.reads I d x v hd rx
  obtain ⟨bs, r2⟩ := Dp.reads I e y u he ry
  exact PySem.W.lt_data r1 r2 ha hn (cmp_room hu sd) ⟨.bl _, H, I, rfl, q⟩
theorem op_gtA (hu : X.A.units + 66 < cLine) : OpR X (compareOp .Gt) (rCmp X.K fun d e => PySem.W.dataLt e d) := by
  intro pins s σ H x y v u Q I rx ry h
  obtain ⟨d, e, hd, he, ha, hn, sd, q⟩ := h
  obtain ⟨as, r1⟩ := Dp.reads I d x v hd rx
  obtain ⟨bs, r2⟩ := Dp.reads I e y u he ry
  exact PySem.W.gt_data r1 r2 ha hn (cmp_room hu sd) ⟨.bl _, H, I, rfl, q⟩
theorem op_leA (hu : X.A.units + 66 < cLine) : OpR X (compareOp .LtE) (rCmp X.K fun d e => !PySem.W.dataLt e d) := by
  intro pins s σ H x y v u Q I rx ry h
  obtain ⟨d, e, hd, he, ha, hn, sd, q⟩ := h
  obtain ⟨as, r1⟩ := Dp.reads I d x v hd rx
  obtain ⟨bs, r2⟩ := Dp.reads I e y u he ry
  exact PySem.W.le_data r1 r2 ha hn (cmp_room hu sd) ⟨.bl _, H, I, rfl, q⟩
theorem op_geA (hu : X.A.units + 66 < cLine) : OpR X (compareOp .GtE) (rCmp X.K fun d e => !PySem.W.dataLt d e) := by
  intro pins s σ H x y v u Q I rx ry h
  obtain ⟨d, e, hd, he, ha, hn, sd, q⟩ := h
  obtain ⟨as, r1⟩ := Dp.reads I d x v hd rx
  obtain ⟨bs, r2⟩ := Dp.reads I e y u he ry
  exact PySem.W.ge_data r1 r2 ha hn (cmp_room hu sd) ⟨.bl _, H, I, rfl, q⟩
abbrev rLtU (K : PySem.W.Frag) : R2 := fun x y H Q => rI0 (fun i j => .bl (decide (i < j))) x y H Q ∨ rCmp K PySem.W.dataLt x y H Q
abbrev rLeU (K : PySem.W.Frag) : R2 := fun x y H Q => rI0 (fun i j => .bl (decide (i ≤ j))) x y H Q ∨ rCmp K (fun d e => !PySem.W.dataLt e d) x y H Q
abbrev rGtU (K : PySem.W.Frag) : R2 := fun x y H Q => rI0 (fun i j => .bl (decide (j < i))) x y H Q ∨ rCmp K (fun d e => PySem.W.dataLt e d) x y H Q
abbrev rGeU (K : PySem.W.Frag) : R2 := fun x y H Q => rI0 (fun i j => .bl (decide (j ≤ i))) x y H Q ∨ rCmp K (fun d e => !PySem.W.dataLt d e) x y H Q
theorem op_ltU (hu : X.A.units + 66 < cLine) : OpR X (compareOp .Lt) (rLtU X.K) := opR_or op_lt (op_ltA hu)
theorem op_leU (hu : X.A.units + 66 < cLine) : OpR X (compareOp .LtE) (rLeU X.K) := opR_or op_le (op_leA hu)
theorem op_gtU (hu : X.A.units + 66 < cLine) : OpR X (compareOp .Gt) (rGtU X.K) := opR_or op_gt (op_gtA hu)
theorem op_geU (hu : X.A.units + 66 < cLine) : OpR X (compareOp .GtE) (rGeU X.K) := opR_or op_ge (op_geA hu)
def bCmp (g : PyData → PyData → Bool) (x y z : PyData) : Prop := cmpB x y = true ∧ z = .bool (g x y)
theorem okE_iff {x : PyData} : okE x = true ↔ noDic x = true ∧ SeqAt.shaped x = true := by unfold okE; rw [Bool.and_eq_true]
theorem opB_cmp {g : PyData → PyData → Bool} : OpB K (rCmp K g) (bCmp g) := by
  rintro F H v w x y z Q s h1 h2 ⟨hc, rfl⟩ hy
  unfold cmpB at hc
  simp only [Bool.and_eq_true] at hc
  obtain ⟨⟨⟨c1, c2⟩, c3⟩, c4⟩ := hc
  obtain ⟨n1, s1⟩ := okE_iff.mp c3
  obtain ⟨n2, s2⟩ := okE_iff.mp c4
  exact ⟨x, y, h1.dp s n1, h2.dp s n2, c1, (fun e => by rw [e] at c2; cases c2), s1, hy.1 _ (.bl _)⟩
theorem oLtU : OpB K (rLtU K) fun x y z => bLt x y z ∨ bCmp PySem.W.dataLt x y z := opB_or oLt opB_cmp
theorem oLeU : OpB K (rLeU K) fun x y z => bLe x y z ∨ bCmp (fun d e => !PySem.W.dataLt e d) x y z := opB_or oLe opB_cmp
theorem oGtU : OpB K (rGtU K) fun x y z => bGt x y z ∨ bCmp (fun d e => PySem.W.dataLt e d) x y z := opB_or oGt opB_cmp
theorem oGeU : OpB K (rGeU K) fun x y z => bGe x y z ∨ bCmp (fun d e => !PySem.W.dataLt d e) x y z := opB_or oGe opB_cmp
def opLt (x y : PyData) : Option Vl := match x, y with
  | .int i, .int j => some (.d (.bool (decide (i < j))))
  | x, y => onee (cmpB x y) (some (.d (.bool (PySem.W.dataLt x y))))
def opLe (x y : PyData) : Option Vl := match x, y with
  | .int i, .int j => some (.d (.bool (decide (i ≤ j))))
  | x, y => onee (cmpB x y) (some (.d (.bool (!PySem.W.dataLt y x))))
def opGt (x y : PyData) : Option Vl := match x, y with
  | .int i, .int j => some (.d (.bool (decide (j < i))))
  | x, y => onee (cmpB x y) (some (.d (.bool (PySem.W.dataLt y x))))
def opGe (x y : PyData) : Option Vl := match x, y with
  | .int i, .int j => some (.d (.bool (decide (j ≤ i))))
  | x, y => onee (cmpB x y) (some (.d (.bool (!PySem.W.dataLt x y))))
theorem opLt_int (i j : Int) : opLt (.int i) (.int j) = some (.d (.bool (decide (i < j)))) := rfl2 rfl
theorem opLe_int (i j : Int) : opLe (.int i) (.int j) = some (.d (.bool (decide (i ≤ j)))) := rfl2 rfl
theorem opGt_int (i j : Int) : opGt (.int i) (.int j) = some (.d (.bool (decide (j < i)))) := rfl2 rfl
theorem opGe_int (i j : Int) : opGe (.int i) (.int j) = some (.d (.bool (decide (j ≤ i)))) := rfl2 rfl
theorem opLt_tup (xs ys : List PyData) : opLt (.tuple xs) (.tuple ys) = onee (cmpB (.tuple xs) (.tuple ys)) (some (.d (.bool (PySem.W.dataLt (.tuple xs) (.tuple ys))))) := rfl2 rfl
theorem opLe_tup (xs ys : List PyData) : opLe (.tuple xs) (.tuple ys) = onee (cmpB (.tuple xs) (.tuple ys)) (some (.d (.bool (!PySem.W.dataLt (.tuple ys) (.tuple xs))))) := rfl2 rfl
theorem opGt_tup (xs ys : List PyData) : opGt (.tuple xs) (.tuple ys) = onee (cmpB (.tuple xs) (.tuple ys)) (some (.d (.bool (PySem.W.dataLt (.tuple ys) (.tuple xs))))) := rfl2 rfl
theorem opGe_tup (xs ys : List PyData) : opGe (.tuple xs) (.tuple ys) = onee (cmpB (.tuple xs) (.tuple ys)) (some (.d (.bool (!PySem.W.dataLt (.tuple xs) (.tuple ys))))) := rfl2 rfl
theorem opLt_ok : ∀ x y w, opLt x y = some w → ∃ z, w = .d z ∧ (bLt x y z ∨ bCmp PySem.W.dataLt x y z) := fun x y w h => by
  unfold opLt at h
  split at h
  · cases h; exact ⟨_, rfl, .inl ⟨_, _, rfl, rfl, trivial, rfl⟩⟩
  · obtain ⟨h1, h2⟩ := onee_some h; cases h2; exact ⟨_, rfl, .inr ⟨h1, rfl⟩⟩
theorem opLe_ok : ∀ x y w, opLe x y = some w → ∃ z, w = .d z ∧ (bLe x y z ∨ bCmp (fun d e => !PySem.W.dataLt e d) x y z) := fun x y w h => by
  unfold opLe at h
  split at h
  · cases h; exact ⟨_, rfl, .inl ⟨_, _, rfl, rfl, trivial, rfl⟩⟩
  · obtain ⟨h1, h2⟩ := onee_some h; cases h2; exact ⟨_, rfl, .inr ⟨h1, rfl⟩⟩
theorem opGt_ok : ∀ x y w, opGt x y = some w → ∃ z, w = .d z ∧ (bGt x y z ∨ bCmp (fun d e => PySem.W.dataLt e d) x y z) := fun x y w h => by
  unfold opGt at h
  split at h
  · cases h; exact ⟨_, rfl, .inl ⟨_, _, rfl, rfl, trivial, rfl⟩⟩
  · obtain ⟨h1, h2⟩ := onee_some h; cases h2; exact ⟨_, rfl, .inr ⟨h1, rfl⟩⟩
theorem opGe_ok : ∀ x y w, opGe x y = some w → ∃ z, w = .d z ∧ (bGe x y z ∨ bCmp (fun d e => !PySem.W.dataLt d e) x y z) := fun x y w h => by
  unfold opGe at h
  split at h
  · cases h; exact ⟨_, rfl, .inl ⟨_, _, rfl, rfl, trivial, rfl⟩⟩
  · obtain ⟨h1, h2⟩ := onee_some h; cases h2; exact ⟨_, rfl, .inr ⟨h1, rfl⟩⟩
def eqD (x y : PyData) : Option Bool := match x, y with
  | .str s, .str t => some (decide (s = t))
  | x, y => onee (okE x && okE y) (some (PyData.eqv x y))
def opEq (x y : PyData) : Option Vl := (eqD x y).map fun b => .d (.bool b)
def opNe (x y : PyData) : Option Vl := (eqD x y).map fun b => .d (.bool !b)
theorem okE_int (i : Int) : okE (.int i) = true := by unfold okE; rw [nd_int, sh_int]; rfl
theorem okE_bool (i : Bool) : okE (.bool i) = true := by unfold okE; rw [nd_bool, sh_bool]; rfl
theorem okE_none : okE .none = true := by unfold okE; rw [nd_none, sh_none]; rfl
theorem eqD_int (i j : Int) : eqD (.int i) (.int j) = some (decide (i = j)) := by
  show onee (okE (.int i) && okE (.int j)) (some (PyData.eqv (.int i) (.int j))) = _
  rw [okE_int, okE_int, eqv_int]
  rfl
theorem eqD_str (i j : Str) : eqD (.str i) (.str j) = some (decide (i = j)) := rfl2 rfl
theorem opEq_of {x y : PyData} {b : Bool} (h : eqD x y = some b) : opEq x y = some (.d (.bool b)) := by unfold opEq; rw [h]; rfl
theorem opNe_of {x y : PyData} {b : Bool} (h : eqD x y = some b) : opNe x y = some (.d (.bool !b)) := by unfold opNe; rw [h]; rfl
theorem opEq_int (i j : Int) : opEq (.int i) (.int j) = some (.d (.bool (decide (i = j)))) := opEq_of (eqD_int i j)
theorem opNe_int (i j : Int) : opNe (.int i) (.int j) = some (.d (.bool !(decide (i = j)))) := opNe_of (eqD_int i j)
theorem opEq_str (i j : Str) : opEq (.str i) (.str j) = some (.d (.bool (decide (i = j)))) := rfl2 rfl
theorem opNe_str (i j : Str) : opNe (.str i) (.str j) = some (.d (.bool !(decide (i = j)))) := rfl2 rfl
theorem eqD_ok {x y : PyData} {b : Bool} (h : eqD x y = some b) : bEqU x y (.bool b) ∧ bNeU x y (.bool !b) := by
  unfold eqD at h
  split at h
  · cases h; exact ⟨rfl, rfl⟩
  · rename_i hn
    obtain ⟨hh, h3⟩ := onee_some h
    cases h3
    rw [Bool.and_eq_true] at hh
    obtain ⟨h1, h2⟩ := hh
    unfold okE at h1 h2
    rw [Bool.and_eq_true] at h1 h2
    constructor
    · unfold bEqU
      split
      · rename_i s t
        exact (hn s t rfl rfl).elim
      · exact ⟨h1, h2, rfl⟩
    · unfold bNeU
      split
      · rename_i s t
        exact (hn s t rfl rfl).elim
      · exact ⟨h1, h2, rfl⟩
theorem opEq_ok : ∀ x y w, opEq x y = some w → ∃ z, w = .d z ∧ bEqU x y z := fun x y w h => by
  unfold opEq at h
  cases e : eqD x y with
  | none => rw [e] at h; cases h
  | some b =>
    rw [e] at h
    cases h
    exact ⟨_, rfl, (eqD_ok e).1⟩
theorem opNe_ok : ∀ x y w, opNe x y = some w → ∃ z, w = .d z ∧ bNeU x y z := fun x y w h => by
  unfold opNe at h
  cases e : eqD x y with
  | none => rw [e] at h; cases h
  | some b =>
    rw [e] at h
    cases h
    exact ⟨_, rfl, (eqD_ok e).2⟩
theorem qe_cmp {op : CmpOp} {rr : R2} {B : PyData → PyData → PyData → Prop} {o2 : Op2} (ho : OpR X (compareOp op) rr) (h : OpB X.K rr B) (hk : ∀ x y w, o2 x y = some w → ∃ z, w = .d z ∧ B x y z) (ha : FE PX E X a fa) (hb : FE PX E X b fb) (hm : behindInMarks op b = false) : FE PX E X (.Compare a [op] [b] pos) (qOp o2 fa fb) :=
  qe_opD (de_cmp ho h ha hb hm) hk
/-- a chain -/
def chK3 (o2 : Op2) (y : PyData) (u : Vl) (r : DEnv) : Out (Vl × DEnv) := opt (rd r u) (opK2b o2 r y)
def chK2c (o2 : Op2) (fc : FT) (y : PyData) (r : DEnv) (v : Vl) : Out (Vl × DEnv) := match v with
  | .d (.bool true) => bind2 (fc r) (chK3 o2 y)
  | .d (.bool false) => .ok (.d (.bool false), r)
  | _ => .bad
def chK2a (o1 o2 : Op2) (fc : FT) (y : PyData) (r : DEnv) (x : PyData) : Out (Vl × DEnv) := opt (o1 x y) (chK2c o2 fc y r)
def chK2 (o1 o2 : Op2) (fc : FT) (s t : Vl) (r : DEnv) : Out (Vl × DEnv) := match t with
  | .d y => opt (rd r s) (chK2a o1 o2 fc y r)
  | _ => .bad
def chK1 (o1 o2 : Op2) (fb fc : FT) (s : Vl) (r : DEnv) : Out (Vl × DEnv) := bind2 (fb r) (chK2 o1 o2 fc s)
def qCh (o1 o2 : Op2) (fa fb fc : FT) (r : DEnv) : Out (Vl × DEnv) := bind2 (fa r) (chK1 o1 o2 fb fc)
theorem chK3_eq {o2 : Op2} {y : PyData} {u : Vl} {r : DEnv} : chK3 o2 y u r = opt (rd r u) (opK2b o2 r y) := rfl2 rfl
theorem chK2a_eq {o1 o2 : Op2} {fc : FT} {x y : PyData} {r : DEnv} : chK2a o1 o2 fc y r x = opt (o1 x y) (chK2c o2 fc y r) := rfl2 rfl
theorem chK2c_t {o2 : Op2} {fc : FT} {y : PyData} {r : DEnv} : chK2c o2 fc y r (.d (.bool true)) = bind2 (fc r) (chK3 o2 y) := rfl2 rfl
theorem chK2c_f {o2 : Op2} {fc : FT} {y : PyData} {r : DEnv} : chK2c o2 fc y r (.d (.bool false)) = .ok (.d (.bool false), r) := rfl2 rfl
theorem chK2_eq {o1 o2 : Op2} {fc : FT} {s : Vl} {y : PyData} {r : DEnv} : chK2 o1 o2 fc s (.d y) r = opt (rd r s) (chK2a o1 o2 fc y r) := rfl2 rfl
theorem chK1_eq {o1 o2 : Op2} {fb fc : FT} {s : Vl} {r : DEnv} : chK1 o1 o2 fb fc s r = bind2 (fb r) (chK2 o1 o2 fc s) := rfl2 rfl
theorem qCh_eq {o1 o2 : Op2} {fa fb fc : FT} {r : DEnv} : qCh o1 o2 fa fb fc r = bind2 (fa r) (chK1 o1 o2 fb fc) := rfl2 rfl
theorem qCh_d {o1 o2 : Op2} {B B' : PyData → PyData → PyData → Prop} {P : Vl → DEnv → Prop} (h1 : ∀ x y w, o1 x y = some w → ∃ z, w = .d z ∧ B x y z) (h2 : ∀ x y w, o2 x y = some w → ∃ z, w = .d z ∧ B' x y z)
    (p : ofT PX (qCh o1 o2 fa fb fc) r P) : dChain B B' (ofT PX fa) (ofT PX fb) (ofT PX fc) r P := by
  unfold ofT qCh at p
  refine wp2_mono (wp2_bind2 p) fun s r1 q => ?_
  unfold chK1 at q
  refine wp2_mono (wp2_bind2 q) fun t r2 q => ?_
  unfold chK2 at q
  split at q
  · rename_i y
    obtain ⟨x, e1, q⟩ := wp2_opt q
    obtain ⟨v, e2, q⟩ := wp2_opt q
    unfold chK2c at q
    split at q
    · obtain ⟨z, ez, hb⟩ := h1 _ _ _ e2
      cases ez
      refine ⟨x, y, true, e1, rfl, hb, ?_⟩
      rw [if_pos rfl]
      refine wp2_mono (wp2_bind2 q) fun u r3 q => ?_
      unfold chK3 at q
      obtain ⟨w, e3, q⟩ := wp2_opt q
      obtain ⟨w2, e4, q⟩ := wp2_opt q
      obtain ⟨z, rfl, hb2⟩ := h2 _ _ _ e4
      exact ⟨w, z, e3, hb2, q⟩
    · obtain ⟨z, ez, hb⟩ := h1 _ _ _ e2
      cases ez
      refine ⟨x, y, false, e1, rfl, hb, ?_⟩
      rw [if_neg Bool.false_ne_true]
      exact q
    · exact q.elim
  · exact q.elim
theorem qe_chain {op op' : CmpOp} {rr rr' : R2} {B B' : PyData → PyData → PyData → Prop} {o1 o2 : Op2} (h1 : PE X (.Compare a [op, op'] [b, c] pos) (tChain rr rr' (tD X.K E (ofT PX fa)) (tD X.K E (ofT PX fb)) (tD X.K E (ofT PX fc)))) (h : OpB X.K rr B) (h' : OpB X.K rr' B')
    (k1 : ∀ x y w, o1 x y = some w → ∃ z, w = .d z ∧ B x y z) (k2 : ∀ x y w, o2 x y = some w → ∃ z, w = .d z ∧ B' x y z) : FE PX E X (.Compare a [op, op'] [b, c] pos) (qCh o1 o2 fa fb fc) := fe_of (de_chain h1 h h') fun r P p => qCh_d k1 k2 p
/-! ### and, or, not, if -/
def teK (s : Vl) (r : DEnv) : Out (Bool × DEnv) := match s with
  | .d (.bool b) => .ok (b, r)
  | _ => .bad
def qTe (fa : FT) (r : DEnv) : Out (Bool × DEnv) := bind2 (fa r) teK
theorem teK_eq (b : Bool) (r : DEnv) : teK (.d (.bool b)) r = .ok (b, r) := rfl2 rfl
theorem qTe_eq (fa : FT) (r : DEnv) : qTe fa r = bind2 (fa r) teK := rfl2 rfl
theorem qTe_d {P : Bool → DEnv → Prop} (p : ofT PX (qTe fa) r P) : dTe (ofT PX fa) r P := by
  unfold ofT qTe at p
  refine wp2_mono (wp2_bind2 p) fun s r1 q => ?_
  unfold teK at q
  split at q
  · exact ⟨_, rfl, q⟩
  · exact q.elim
theorem qt_val (h : PT X e (tB (tD X.K E (ofT PX fa)))) : FTe PX E X e (qTe fa) := fte_of (dt_val h) fun r P p => qTe_d p
theorem qt_cmp {op : CmpOp} {rr : R2} {B : PyData → PyData → PyData → Prop} {o2 : Op2} (ho : OpR X (compareOp op) rr) (h : OpB X.K rr B) (hk : ∀ x y w, o2 x y = some w → ∃ z, w = .d z ∧ B x y z) (ha : FE PX E X a fa) (hb : FE PX E X b fb) (hm : behindInMarks op b = false) : FTe PX E X (.Compare a [op] [b] pos) (qTe (qOp o2 fa fb)) :=
  fte_of (dt_cmp ho h ha hb hm) fun r P p => ofT_mono (qOp_cases (qTe_d p)) fun s r1 q => ofT_mono q fun t r2 ⟨x, y, w, e1, e2, e3, q⟩ => by
    obtain ⟨z, rfl, hb⟩ := hk _ _ _ e3
    exact ⟨x, y, z, e1, e2, hb, q⟩
theorem qt_chain {op op' : CmpOp} {rr rr' : R2} {B B' : PyData → PyData → PyData → Prop} {o1 o2 : Op2} (h1 : PT X (.Compare a [op, op'] [b, c] pos) (tTest (tChain rr rr' (tD X.K E (ofT PX fa)) (tD X.K E (ofT PX fb)) (tD X.K E (ofT PX fc))))) (h : OpB X.K rr B) (h' : OpB X.K rr' B')
    (k1 : ∀ x y w, o1 x y = some w → ∃ z, w = .d z ∧ B x y z) (k2 : ∀ x y w, o2 x y = some w → ∃ z, w = .d z ∧ B' x y z) : FTe PX E X (.Compare a [op, op'] [b, c] pos) (qTe (qCh o1 o2 fa fb fc)) := fte_of (dt_chain h1 h h') fun r P p => qCh_d k1 k2 (qTe_d p)
def tandK (tb : FTT) (c : Bool) (r : DEnv) : Out (Bool × DEnv) := match c with
  | true => tb r
  | false => .ok (false, r)
def qtAnd (ta tb : FTT) (r : DEnv) : Out (Bool × DEnv) := bind2 (ta r) (tandK tb)
def torK (tb : FTT) (c : Bool) (r : DEnv) : Out (Bool × DEnv) := match c with
  | true => .ok (true, r)
  | false => tb r
def qtOr (ta tb : FTT) (r : DEnv) : Out (Bool × DEnv) := bind2 (ta r) (torK tb)
def tnotK (c : Bool) (r : DEnv) : Out (Bool × DEnv) := .ok (!c, r)
def qtNot (ta : FTT) (r : DEnv) : Out (Bool × DEnv) := bind2 (ta r) tnotK
theorem tandK_t (tb : FTT) (r : DEnv) : tandK tb true r = tb r := rfl2 rfl
theorem tandK_f (tb : FTT) (r : DEnv) : tandK tb false r = .ok (false, r) := rfl2 rfl
theorem torK_t (tb : FTT) (r : DEnv) : torK tb true r = .ok (true, r) := rfl2 rfl
theorem torK_f (tb : FTT) (r : DEnv) : torK tb false r = tb r := rfl2 rfl
theorem tnotK_eq (c : Bool) (r : DEnv) : tnotK c r = .ok (!c, r) := rfl2 rfl
theorem qtAnd_eq (ta tb : FTT) (r : DEnv) : qtAnd ta tb r = bind2 (ta r) (tandK tb) := rfl2 rfl
theorem qtOr_eq (ta tb : FTT) (r : DEnv) : qtOr ta tb r = bind2 (ta r) (torK tb) := rfl2 rfl
theorem qtNot_eq (ta : FTT) (r : DEnv) : qtNot ta r = bind2 (ta r) tnotK := rfl2 rfl
theorem qw_and1 (ha : FTe PX E X a ta) : FW PX E X (.BoolOp .And [a] pos) ta := dw_and1 ha
theorem qw_or1 (ha : FTe PX E X a ta) : FW PX E X (.BoolOp .Or [a] pos) ta := dw_or1 ha
theorem qw_and (ha : FTe PX E X a ta) (hb : FW PX E X (.BoolOp .And (b :: rest) pos) tb) : FW PX E X (.BoolOp .And (a :: b :: rest) pos) (qtAnd ta tb) := fw_of (dw_and ha hb) fun r P p => by
  unfold ofT qtAnd at p
  refine wp2_mono (wp2_bind2 p) fun c r1 q => ?_
  cases c <;> exact q
theorem qw_or (ha : FTe PX E X a ta) (hb : FW PX E X (.BoolOp .Or (b :: rest) pos) tb) : FW PX E X (.BoolOp .Or (a :: b :: rest) pos) (qtOr ta tb) := fw_of (dw_or ha hb) fun r P p => by
  unfold ofT qtOr at p
  refine wp2_mono (wp2_bind2 p) fun c r1 q => ?_
  cases c <;> exact q
theorem qt_w (h : FW PX E X e ta) : FTe PX E X e ta := dt_w h
theorem qt_not (ha : FTe PX E X a ta) : FTe PX E X (.UnaryOp .Not a pos) (qtNot ta) := fte_of (dt_not ha) fun r P p => by
  unfold ofT qtNot at p
  exact wp2_mono (wp2_bind2 p) fun c r1 q => q
def vandK (fb : FT) (s : Vl) (r : DEnv) : Out (Vl × DEnv) := match s with
  | .d (.bool true) => fb r
  | .d (.bool false) => .ok (.d (.bool false), r)
  | _ => .bad
def qAnd (fa fb : FT) (r : DEnv) : Out (Vl × DEnv) := bind2 (fa r) (vandK fb)
def vorK (fb : FT) (s : Vl) (r : DEnv) : Out (Vl × DEnv) := match s with
  | .d (.bool true) => .ok (.d (.bool true), r)
  | .d (.bool false) => fb r
  | _ => .bad
def qOr (fa fb : FT) (r : DEnv) : Out (Vl × DEnv) := bind2 (fa r) (vorK fb)
def vnotK (s : Vl) (r : DEnv) : Out (Vl × DEnv) := match s with
  | .d (.bool c) => .ok (.d (.bool !c), r)
  | _ => .bad
def qNot (fa : FT) (r : DEnv) : Out (Vl × DEnv) := bind2 (fa r) vnotK
theorem vandK_t (fb : FT) (r : DEnv) : vandK fb (.d (.bool true)) r = fb r := rfl2 rfl
theorem vandK_f (fb : FT) (r : DEnv) : vandK fb (.d (.bool false)) r = .ok (.d (.bool false), r) := rfl2 rfl
theorem vorK_t (fb : FT) (r : DEnv) : vorK fb (.d (.bool true)) r = .ok (.d (.bool true), r) := rfl2 rfl
theorem vorK_f (fb : FT) (r : DEnv) : vorK fb (.d (.bool false)) r = fb r := rfl2 rfl
theorem vnotK_eq (c : Bool) (r : DEnv) : vnotK (.d (.bool c)) r = .ok (.d (.bool !c), r) := rfl2 rfl
theorem qAnd_eq (fa fb : FT) (r : DEnv) : qAnd fa fb r = bind2 (fa r) (vandK fb) := rfl2 rfl
theorem qOr_eq (fa fb : FT) (r : DEnv) : qOr fa fb r = bind2 (fa r) (vorK fb) := rfl2 rfl
theorem qNot_eq (fa : FT) (r : DEnv) : qNot fa r = bind2 (fa r) vnotK := rfl2 rfl
theorem qe_one {op} (h : FE PX E X a fa) : FE PX E X (.BoolOp op [a] pos) fa := de_one h
theorem qe_and (ha : FE PX E X a fa) (hb : FE PX E X (.BoolOp .And (b :: rest) pos) fb) : FE PX E X (.BoolOp .And (a :: b :: rest) pos) (qAnd fa fb) := fe_of (de_and ha hb) fun r P p => by
  unfold ofT qAnd at p
  refine wp2_mono (wp2_bind2 p) fun s r1 q => ?_
  unfold vandK at q
  split at q
  · exact ⟨true, rfl, q⟩
  · exact ⟨false, rfl, q⟩
  · exact q.elim
theorem qe_or (ha : FE PX E X a fa) (hb : FE PX E X (.BoolOp .Or (b :: rest) pos) fb) : FE PX E X (.BoolOp .Or (a :: b :: rest) pos) (qOr fa fb) := fe_of (de_or ha hb) fun r P p => by
  unfold ofT qOr at p
  refine wp2_mono (wp2_bind2 p) fun s r1 q => ?_
  unfold vorK at q
  split at q
  · exact ⟨true, rfl, q⟩
  · exact ⟨false, rfl, q⟩
  · exact q.elim
theorem qe_not (ha : FE PX E X a fa) : FE PX E X (.UnaryOp .Not a pos) (qNot fa) := fe_of (de_not ha) fun r P p => by
  unfold ofT qNot at p
  refine wp2_mono (wp2_bind2 p) fun s r1 q => ?_
  unfold vnotK at q
  split at q
  · exact ⟨_, rfl, q⟩
  · exact q.elim
def negK (s : Vl) (r : DEnv) : Out (Vl × DEnv) := match s with
  | .d (.int i) => .ok (.d (.int (-i)), r)
  | _ => .bad
def qNeg (fa : FT) (r : DEnv) : Out (Vl × DEnv) := bind2 (fa r) negK
theorem negK_eq (i : Int) (r : DEnv) : negK (.d (.int i)) r = .ok (.d (.int (-i)), r) := rfl2 rfl
theorem qNeg_eq (fa : FT) (r : DEnv) : qNeg fa r = bind2 (fa r) negK := rfl2 rfl
theorem qe_neg (h : FE PX E X e fa) : FE PX E X (.UnaryOp .USub e pos) (qNeg fa) := fe_of (de_neg h) fun r P p => by
  unfold ofT qNeg at p
  refine wp2_mono (wp2_bind2 p) fun s r1 q => ?_
  unfold negK at q
  split at q
  · exact ⟨_, rfl, q⟩
  · exact q.elim
def ifEK (fa fb : FT) (c : Bool) (r : DEnv) : Out (Vl × DEnv) := match c with
  | true => fa r
  | false => fb r
def qIf (t : FTT) (fa fb : FT) (r : DEnv) : Out (Vl × DEnv) := bind2 (t r) (ifEK fa fb)
theorem ifEK_t (fa fb : FT) (r : DEnv) : ifEK fa fb true r = fa r := rfl2 rfl
theorem ifEK_f (fa fb : FT) (r : DEnv) : ifEK fa fb false r = fb r := rfl2 rfl
theorem qIf_eq (t : FTT) (fa fb : FT) (r : DEnv) : qIf t fa fb r = bind2 (t r) (ifEK fa fb) := rfl2 rfl
theorem qe_if {t : FTT} (hc : FTe PX E X c t) (ha : FE PX E X a fa) (hb : FE PX E X b fb) : FE PX E X (.IfExp c a b pos) (qIf t fa fb) := fe_of (de_if hc ha hb) fun r P p => by
  unfold ofT qIf at p
  refine wp2_mono (wp2_bind2 p) fun c r1 q => ?_
  cases c <;> exact q

/-! ### items, slices -/
def opIx (x y : PyData) : Option Vl := match x, y with
  | .list xs, .int i => (atD xs i).map .d
  | .tuple xs, .int i => (atD xs i).map .d
  | .str s, .int i => onee (lenOk s.length) ((strAt s i).map .d)
  | _, _ => none
theorem opIx_l (xs : List PyData) (i : Int) : opIx (.list xs) (.int i) = (atD xs i).map .d := rfl2 rfl
theorem opIx_t (xs : List PyData) (i : Int) : opIx (.tuple xs) (.int i) = (atD xs i).map .d := rfl2 rfl
theorem opIx_s (s : Str) (i : Int) : opIx (.str s) (.int i) = onee (lenOk s.length) ((strAt s i).map .d) := rfl2 rfl
theorem opIx_ok : ∀ x y w, opIx x y = some w → ∃ z, w = .d z ∧ bIx x y z := fun x y w h => by
  unfold opIx at h
  split at h
  · obtain ⟨z, e, rfl⟩ := Option.map_eq_some_iff.mp h; exact ⟨z, rfl, _, rfl, e⟩
  · obtain ⟨z, e, rfl⟩ := Option.map_eq_some_iff.mp h; exact ⟨z, rfl, _, rfl, e⟩
  · obtain ⟨h1, h2⟩ := onee_some h
    obtain ⟨z, e, rfl⟩ := Option.map_eq_some_iff.mp h2; exact ⟨z, rfl, _, rfl, lenOk_iff.mp h1, e⟩
  · cases h
theorem qe_ix (ha : FE PX E X a fa) (hb : FE PX E X b fb) (hs : PlainIx b := by exact fun _ _ => rfl) : FE PX E X (.Subscript a b pos) (qOp opIx fa fb) := qe_opD (de_ix ha hb hs) opIx_ok
def oNone (r : DEnv) : Out (Option Int × DEnv) := .ok (none, r)
def osK (s : Vl) (r : DEnv) : Out (Option Int × DEnv) := match s with
  | .d (.int i) => .ok (some i, r)
  | _ => .bad
def oSome (fa : FT) (r : DEnv) : Out (Option Int × DEnv) := bind2 (fa r) osK
theorem oNone_eq (r : DEnv) : oNone r = .ok (none, r) := rfl2 rfl
theorem osK_eq (i : Int) (r : DEnv) : osK (.d (.int i)) r = .ok (some i, r) := rfl2 rfl
theorem oSome_eq (fa : FT) (r : DEnv) : oSome fa r = bind2 (fa r) osK := rfl2 rfl
abbrev FO (PX : Exn → Prop) (E : Ent) (X : Cx) (e : Option Expr) (f : FTO) : Prop := DO E X e (ofT PX f)
theorem qo_none : FO PX E X none oNone := dpo_none
theorem qo_some (ha : FE PX E X a fa) : FO PX E X (some a) (oSome fa) := wkO (dpo_some ha) fun st H Q ⟨F, r, P, R, p, q⟩ => ⟨F, r, P, R, by
  unfold ofT oSome at p
  refine wp2_mono (wp2_bind2 p) fun s r1 q => ?_
  unfold osK at q
  split at q
  · exact ⟨_, rfl, q⟩
  · exact q.elim, q⟩
def sliD (x : PyData) (l h : Option Int) : Option Vl := match x with
  | .list xs => some (.n (.list (cutD xs l h)))
  | .tuple xs => some (.d (.tuple (cutD xs l h)))
  | .str z => onee (lenOk z.length) (some (.d (.str (Txt.slice z l h))))
  | _ => none
theorem sliD_l (xs : List PyData) (l h : Option Int) : sliD (.list xs) l h = some (.n (.list (cutD xs l h))) := rfl2 rfl
theorem sliD_t (xs : List PyData) (l h : Option Int) : sliD (.tuple xs) l h = some (.d (.tuple (cutD xs l h))) := rfl2 rfl
def sliK4 (l : Option Int) (h : Option Int) (r : DEnv) (x : PyData) : Out (Vl × DEnv) := opt (sliD x l h) (opK3 r)
def sliK3 (s : Vl) (l : Option Int) (h : Option Int) (r : DEnv) : Out (Vl × DEnv) := opt (rd r s) (sliK4 l h r)
def sliK2 (s : Vl) (hi : FTO) (l : Option Int) (r : DEnv) : Out (Vl × DEnv) := bind2 (hi r) (sliK3 s l)
def sliK1 (lo hi : FTO) (s : Vl) (r : DEnv) : Out (Vl × DEnv) := bind2 (lo r) (sliK2 s hi)
def qSli (fa : FT) (lo hi : FTO) (r : DEnv) : Out (Vl × DEnv) := bind2 (fa r) (sliK1 lo hi)
theorem sliK4_eq (l h : Option Int) (r : DEnv) (x : PyData) : sliK4 l h r x = opt (sliD x l h) (opK3 r) := rfl2 rfl
theorem sliK3_eq (s : Vl) (l h : Option Int) (r : DEnv) : sliK3 s l h r = opt (rd r s) (sliK4 l h r) := rfl2 rfl
theorem sliD_s (z : Str) (l h : Option Int) : sliD (.str z) l h = onee (lenOk z.length) (some (.d (.str (Txt.slice z l h)))) := rfl2 rfl
theorem sliK2_eq (s : Vl) (hi : FTO) (l : Option Int) (r : DEnv) : sliK2 s hi l r = bind2 (hi r) (sliK3 s l) := rfl2 rfl
theorem sliK1_eq (lo hi : FTO) (s : Vl) (r : DEnv) : sliK1 lo hi s r = bind2 (lo r) (sliK2 s hi) := rfl2 rfl
theorem qSli_eq (fa : FT) (lo hi : FTO) (r : DEnv) : qSli fa lo hi r = bind2 (fa r) (sliK1 lo hi) := rfl2 rfl
theorem qe_slice {lo hi : Option Expr} {fl fh : FTO} (ha : FE PX E X a fa) (hl : FO PX E X lo fl) (hh : FO PX E X hi fh) : FE PX E X (.Subscript a (.Slice lo hi none p2) pos) (qSli fa fl fh) := fe_of (de_slice ha hl hh) fun r P p => by
  unfold ofT qSli at p
  refine wp2_mono (wp2_bind2 p) fun s r1 q => ?_
  unfold sliK1 at q
  refine wp2_mono (wp2_bind2 q) fun l r2 q => ?_
  unfold sliK2 at q
  refine wp2_mono (wp2_bind2 q) fun h r3 q => ?_
  unfold sliK3 at q
  obtain ⟨x, e, q⟩ := wp2_opt q
  obtain ⟨w, ew, q⟩ := wp2_opt q
  refine ⟨x, w, e, ?_, q⟩
  unfold sliD at ew
  split at ew
  · exact (Option.some.inj ew).symm
  · exact (Option.some.inj ew).symm
  · obtain ⟨h1, h2⟩ := onee_some ew
    exact ⟨lenOk_iff.mp h1, (Option.some.inj h2).symm⟩
  · cases ew
def revD (x : PyData) : Option Vl := match x with
  | .list xs => some (.n (.list xs.reverse))
  | .tuple xs => some (.d (.tuple xs.reverse))
  | _ => none
theorem revD_l (xs : List PyData) : revD (.list xs) = some (.n (.list xs.reverse)) := rfl2 rfl
theorem revD_t (xs : List PyData) : revD (.tuple xs) = some (.d (.tuple xs.reverse)) := rfl2 rfl
def revK2 (r : DEnv) (x : PyData) : Out (Vl × DEnv) := opt (revD x) (opK3 r)
def revK (s : Vl) (r : DEnv) : Out (Vl × DEnv) := opt (rd r s) (revK2 r)
def qRev (fa : FT) (r : DEnv) : Out (Vl × DEnv) := bind2 (fa r) revK
theorem revK2_eq (r : DEnv) (x : PyData) : revK2 r x = opt (revD x) (opK3 r) := rfl2 rfl
theorem revK_eq (s : Vl) (r : DEnv) : revK s r = opt (rd r s) (revK2 r) := rfl2 rfl
theorem qRev_eq (fa : FT) (r : DEnv) : qRev fa r = bind2 (fa r) revK := rfl2 rfl
theorem qe_rev {k : Nat} {p1 p2 p3 : Pos} (ha : FE PX E X a fa) : FE PX E X (.Subscript a (.Slice none none (some (.UnaryOp .USub (.Constant (.int 1) k p1) p2)) p3) pos) (qRev fa) := fe_of (de_rev ha) fun r P p => by
  unfold ofT qRev at p
  refine wp2_mono (wp2_bind2 p) fun s r1 q => ?_
  unfold revK at q
  obtain ⟨x, e, q⟩ := wp2_opt q
  obtain ⟨w, ew, q⟩ := wp2_opt q
  refine ⟨x, w, e, ?_, q⟩
  unfold revD at ew
  split at ew
  · exact (Option.some.inj ew).symm
  · exact (Option.some.inj ew).symm
  · cases ew

/-! ### arguments, displays -/
def fNilQ (r : DEnv) : Out (List PyData × DEnv) := .ok ([], r)
def fcK2 (x : PyData) (xs : List PyData) (r : DEnv) : Out (List PyData × DEnv) := .ok (x :: xs, r)
def fcK1 (ga : FTF) (s : Vl) (r : DEnv) : Out (List PyData × DEnv) := match s with
  | .d x => bind2 (ga r) (fcK2 x)
  | _ => .bad
def fConsQ (fa : FT) (ga : FTF) (r : DEnv) : Out (List PyData × DEnv) := bind2 (qFz fa r) (fcK1 ga)
theorem fNilQ_eq (r : DEnv) : fNilQ r = .ok ([], r) := rfl2 rfl
theorem fcK2_eq (x : PyData) (xs : List PyData) (r : DEnv) : fcK2 x xs r = .ok (x :: xs, r) := rfl2 rfl
theorem fcK1_eq (ga : FTF) (x : PyData) (r : DEnv) : fcK1 ga (.d x) r = bind2 (ga r) (fcK2 x) := rfl2 rfl
theorem fConsQ_eq (fa : FT) (ga : FTF) (r : DEnv) : fConsQ fa ga r = bind2 (qFz fa r) (fcK1 ga) := rfl2 rfl
theorem qf_nil : FF PX E X [] fNilQ := df_nil
theorem qf_cons (h : FE PX E X e fa) (t : FF PX E X es ga) (hs : starEach (e :: es) X.env = (false, eval e X.env) :: starEach es X.env := by rfl) : FF PX E X (e :: es) (fConsQ fa ga) := ff_of (df_cons h t hs) fun r P p => by
  unfold ofT fConsQ at p
  refine ofT_mono (f := fa) (PX := PX) (qFz_d (PX := PX) (P := fun s r1 => ∃ x, s = .d x ∧ ofT PX ga r1 fun xs r2 => P (x :: xs) r2) (wp2_mono (wp2_bind2 p) fun s r1 q => ?_)) fun _ _ q => q
  unfold fcK1 at q
  split at q
  · exact ⟨_, rfl, wp2_mono (wp2_bind2 q) fun xs r2 q => q⟩
  · exact q.elim
def aNilQ (r : DEnv) : Out (List Vl × DEnv) := .ok ([], r)
def acK2 (s : Vl) (ss : List Vl) (r : DEnv) : Out (List Vl × DEnv) := .ok (s :: ss, r)
def acK1 (ha : FTA) (s : Vl) (r : DEnv) : Out (List Vl × DEnv) := match s with
  | .n _ => .bad
  | .d x => bind2 (ha r) (acK2 (.d x))
  | .v i => bind2 (ha r) (acK2 (.v i))
def aConsQ (fa : FT) (ha : FTA) (r : DEnv) : Out (List Vl × DEnv) := bind2 (fa r) (acK1 ha)
theorem aNilQ_eq (r : DEnv) : aNilQ r = .ok ([], r) := rfl2 rfl
theorem acK2_eq (s : Vl) (ss : List Vl) (r : DEnv) : acK2 s ss r = .ok (s :: ss, r) := rfl2 rfl
theorem acK1_d (ha : FTA) (x : PyData) (r : DEnv) : acK1 ha (.d x) r = bind2 (ha r) (acK2 (.d x)) := rfl2 rfl
theorem acK1_v (ha : FTA) (i : Nat) (r : DEnv) : acK1 ha (.v i) r = bind2 (ha r) (acK2 (.v i)) := rfl2 rfl
theorem aConsQ_eq (fa : FT) (ha : FTA) (r : DEnv) : aConsQ fa ha r = bind2 (fa r) (acK1 ha) := rfl2 rfl
theorem qa_nil : FA PX E X [] aNilQ := da_nil
theorem qa_cons (h : FE PX E X e fa) (t : FA PX E X es ha) (hs : starEach (e :: es) X.env = (false, eval e X.env) :: starEach es X.env := by rfl) : FA PX E X (e :: es) (aConsQ fa ha) := fa_of (da_cons h t hs) fun r P p => by
  unfold ofT aConsQ at p
  refine wp2_mono (wp2_bind2 p) fun s r1 q => ?_
  unfold acK1 at q
  split at q
  · exact q.elim
  · exact ⟨rfl, wp2_mono (wp2_bind2 q) fun xs r2 q => q⟩
  · exact ⟨rfl, wp2_mono (wp2_bind2 q) fun xs r2 q => q⟩
def mcK1 (ha : FTA) (s : Vl) (r : DEnv) : Out (List Vl × DEnv) := bind2 (ha r) (acK2 s)
def mConsQ (fa : FT) (ha : FTA) (r : DEnv) : Out (List Vl × DEnv) := bind2 (fa r) (mcK1 ha)
theorem mcK1_eq (ha : FTA) (s : Vl) (r : DEnv) : mcK1 ha s r = bind2 (ha r) (acK2 s) := rfl2 rfl
theorem mConsQ_eq (fa : FT) (ha : FTA) (r : DEnv) : mConsQ fa ha r = bind2 (fa r) (mcK1 ha) := rfl2 rfl
theorem qm_nil : FM PX E X [] aNilQ := dm_nil
theorem qm_cons (h : FE PX E X e fa) (t : FM PX E X es ha) (hs : starEach (e :: es) X.env = (false, eval e X.env) :: starEach es X.env := by rfl) : FM PX E X (e :: es) (mConsQ fa ha) := fm_of (dm_cons h t hs) fun r P p => by
  unfold ofT mConsQ at p
  exact wp2_mono (wp2_bind2 p) fun s r1 q => wp2_mono (wp2_bind2 q) fun xs r2 q => q
def tupK (xs : List PyData) (r : DEnv) : Out (Vl × DEnv) := need (lenOk xs.length) (.ok (.d (.tuple xs), r))
def qTup (ga : FTF) (r : DEnv) : Out (Vl × DEnv) := bind2 (ga r) tupK
theorem tupK_eq (xs : List PyData) (r : DEnv) : tupK xs r = need (lenOk xs.length) (.ok (.d (.tuple xs), r)) := rfl2 rfl
theorem qTup_eq (ga : FTF) (r : DEnv) : qTup ga r = bind2 (ga r) tupK := rfl2 rfl
theorem qe_tup {k : Nat} (h : FF PX E X es ga) : FE PX E X (.Tuple es k pos) (qTup ga) := fe_of (de_tup h) fun r P p => by
  unfold ofT qTup at p
  exact wp2_mono (wp2_bind2 p) fun s r1 q => ⟨lenOk_iff.mp (wp2_need q).1, (wp2_need q).2⟩
def lstK (xs : List PyData) (r : DEnv) : Out (Vl × DEnv) := need (lenOk xs.length) (.ok (.n (.list xs), r))
def qLst (ga : FTF) (r : DEnv) : Out (Vl × DEnv) := bind2 (ga r) lstK
theorem lstK_eq (xs : List PyData) (r : DEnv) : lstK xs r = need (lenOk xs.length) (.ok (.n (.list xs), r)) := rfl2 rfl
theorem qLst_eq (ga : FTF) (r : DEnv) : qLst ga r = bind2 (ga r) lstK := rfl2 rfl
theorem qe_lst (h : FF PX E X es ga) : FE PX E X (.List es pos) (qLst ga) := fe_of (de_lst h) fun r P p => by
  unfold ofT qLst at p
  exact wp2_mono (wp2_bind2 p) fun s r1 q => ⟨lenOk_iff.mp (wp2_need q).1, (wp2_need q).2⟩

/-! ### what is built in -/
def rdC (o : Option PyData) (os : Option (List PyData)) : Option (List PyData) := match o, os with
  | some x, some xs => some (x :: xs)
  | _, _ => none
def rdAll (r : DEnv) : List Vl → Option (List PyData)
  | [] => some []
  | s :: ss => rdC (rd r s) (rdAll r ss)
theorem rdC_eq (x : PyData) (xs : List PyData) : rdC (some x) (some xs) = some (x :: xs) := rfl2 rfl
theorem rdAll_nil (r : DEnv) : rdAll r [] = some [] := rfl2 rfl
theorem rdAll_cons (r : DEnv) (s : Vl) (ss : List Vl) : rdAll r (s :: ss) = rdC (rd r s) (rdAll r ss) := rfl2 rfl
theorem rdAll_ok : ∀ {ss : List Vl} {xs : List PyData}, rdAll r ss = some xs → VlsRd r ss xs
  | [], _, h => by cases h; exact .nil
  | s :: ss, xs, h => by
    unfold rdAll rdC at h
    split at h
    · rename_i x ys e1 e2
      cases h
      exact .cons e1 (rdAll_ok e2)
    · cases h
abbrev Bi := List PyData → Option Vl
def biK2 (f : Bi) (r : DEnv) (xs : List PyData) : Out (Vl × DEnv) := opt (f xs) (opK3 r)
def biK (f : Bi) (ss : List Vl) (r : DEnv) : Out (Vl × DEnv) := opt (rdAll r ss) (biK2 f r)
def qB (f : Bi) (ha : FTA) (r : DEnv) : Out (Vl × DEnv) := bind2 (ha r) (biK f)
theorem biK2_eq (f : Bi) (r : DEnv) (xs : List PyData) : biK2 f r xs = opt (f xs) (opK3 r) := rfl2 rfl
theorem biK_eq (f : Bi) (ss : List Vl) (r : DEnv) : biK f ss r = opt (rdAll r ss) (biK2 f r) := rfl2 rfl
theorem qB_eq (f : Bi) (ha : FTA) (r : DEnv) : qB f ha r = bind2 (ha r) (biK f) := rfl2 rfl
theorem qe_bi {B : List PyData → PyData → Prop} {f : Bi} (h : DE E X e (dB B (ofT PX ha))) (hf : ∀ xs w, f xs = some w → ∃ z, w = .d z ∧ B xs z) : FE PX E X e (qB f ha) := fe_of h fun r P p => by
  unfold ofT qB at p
  refine wp2_mono (wp2_bind2 p) fun ss r1 q => ?_
  unfold biK at q
  obtain ⟨xs, e, q⟩ := wp2_opt q
  obtain ⟨w, ew, q⟩ := wp2_opt q
  obtain ⟨z, rfl, hb⟩ := hf _ _ ew
  exact ⟨xs, z, rdAll_ok e, hb, q⟩
theorem qe_biL {B : List PyData → List PyData → Prop} {f : Bi} (h : DE E X e (dBL B (ofT PX ha))) (hf : ∀ xs w, f xs = some w → ∃ z, w = .n (.list z) ∧ B xs z) : FE PX E X e (qB f ha) := fe_of h fun r P p => by
  unfold ofT qB at p
  refine wp2_mono (wp2_bind2 p) fun ss r1 q => ?_
  unfold biK at q
  obtain ⟨xs, e, q⟩ := wp2_opt q
  obtain ⟨w, ew, q⟩ := wp2_opt q
  obtain ⟨z, rfl, hb⟩ := hf _ _ ew
  exact ⟨xs, z, rdAll_ok e, hb, q⟩
def biLen : Bi
  | [.list xs] => some (.d (.int (xs.length : Nat)))
  | [.tuple xs] => some (.d (.int (xs.length : Nat)))
  | [.str s] => onee (lenOk s.length) (some (.d (.int (s.length : Nat))))
  | _ => none
theorem biLen_l (xs : List PyData) : biLen [.list xs] = some (.d (.int (xs.length : Nat))) := rfl2 rfl
theorem biLen_t (xs : List PyData) : biLen [.tuple xs] = some (.d (.int (xs.length : Nat))) := rfl2 rfl
theorem biLen_ok : ∀ xs w, biLen xs = some w → ∃ z, w = .d z ∧ bLen xs z := fun xs w h => by
  unfold biLen at h
  split at h
  · cases h; exact ⟨_, rfl, _, rfl, rfl⟩
  · cases h; exact ⟨_, rfl, _, rfl, rfl⟩
  · obtain ⟨h1, h2⟩ := onee_some h
    cases h2
    exact ⟨_, rfl, _, rfl, lenOk_iff.mp h1, rfl⟩
  · cases h
theorem qe_len (hg : Gl X "len") (hm : X.mg "len" = none) (h : FA PX E X [e] ha) (he : starEach [e] X.env = (false, eval e X.env) :: starEach [] X.env := by rfl) (hpl : (backTo pos (starEach [] X.env)).any (·.1) = false := by rfl) :
    FE PX E X (.Call (.Name "len" p) [e] [] pos) (qB biLen ha) := qe_bi (de_len hg hm h he hpl) biLen_ok
def biTuple : Bi
  | [.list xs] => some (.d (.tuple xs))
  | [.tuple xs] => some (.d (.tuple xs))
  | _ => none
theorem biTuple_l (xs : List PyData) : biTuple [.list xs] = some (.d (.tuple xs)) := rfl2 rfl
theorem biTuple_t (xs : List PyData) : biTuple [.tuple xs] = some (.d (.tuple xs)) := rfl2 rfl
theorem biTuple_ok : ∀ xs w, biTuple xs = some w → ∃ z, w = .d z ∧ bTuple xs z := fun xs w h => by
  unfold biTuple at h
  split at h
  · cases h; exact ⟨_, rfl, _, .inl rfl, rfl⟩
  · cases h; exact ⟨_, rfl, _, .inr rfl, rfl⟩
  · cases h
theorem qe_tuple (hg : Gl X "tuple") (hm : X.mg "tuple" = none) (h : FA PX E X [e] ha) (he : starEach [e] X.env = (false, eval e X.env) :: starEach [] X.env := by rfl) (hpl : (backTo pos (starEach [] X.env)).any (·.1) = false := by rfl) :
    FE PX E X (.Call (.Name "tuple" p) [e] [] pos) (qB biTuple ha) := qe_bi (de_tuple hg hm h he hpl) biTuple_ok
def biList : Bi
  | [.list xs] => some (.n (.list xs))
  | [.tuple xs] => some (.n (.list xs))
  | _ => none
theorem biList_l (xs : List PyData) : biList [.list xs] = some (.n (.list xs)) := rfl2 rfl
theorem biList_t (xs : List PyData) : biList [.tuple xs] = some (.n (.list xs)) := rfl2 rfl
theorem biList_ok : ∀ xs w, biList xs = some w → ∃ z, w = .n (.list z) ∧ bListOf xs z := fun xs w h => by
  unfold biList at h
  split at h
  · cases h; exact ⟨_, rfl, .inl rfl⟩
  · cases h; exact ⟨_, rfl, .inr rfl⟩
  · cases h
theorem qe_list (hg : Gl X "list") (hm : X.mg "list" = none) (h : FA PX E X [e] ha) (he : starEach [e] X.env = (false, eval e X.env) :: starEach [] X.env := by rfl) (hpl : (backTo pos (starEach [] X.env)).any (·.1) = false := by rfl) :
    FE PX E X (.Call (.Name "list" p) [e] [] pos) (qB biList ha) := qe_biL (de_list hg hm h he hpl) biList_ok
/-- all truths, all ints of a list -/
def boolsD : List PyData → Option (List Bool)
  | [] => some []
  | .bool b :: xs => match boolsD xs with
    | some bs => some (b :: bs)
    | none => none
  | _ :: _ => none
def intsD : List PyData → Option (List Int)
  | [] => some []
  | .int b :: xs => match intsD xs with
    | some bs => some (b :: bs)
    | none => none
  | _ :: _ => none
theorem boolsD_ok : ∀ {xs : List PyData} {bs : List Bool}, boolsD xs = some bs → xs = bs.map .bool
  | [], bs, h => by cases h; rfl
  | .bool b :: xs, bs, h => by
    unfold boolsD at h
    split at h
    · rename_i cs e
      cases h
      rw [boolsD_ok e]
      rfl
    · cases h
  | .none :: _, _, h => by cases h
  | .int _ :: _, _, h => by cases h
  | .str _ :: _, _, h => by cases h
  | .list _ :: _, _, h => by cases h
  | .tuple _ :: _, _, h => by cases h
  | .dict _ :: _, _, h => by cases h
theorem intsD_ok : ∀ {xs : List PyData} {bs : List Int}, intsD xs = some bs → xs = bs.map .int
  | [], bs, h => by cases h; rfl
  | .int b :: xs, bs, h => by
    unfold intsD at h
    split at h
    · rename_i cs e
      cases h
      rw [intsD_ok e]
      rfl
    · cases h
  | .none :: _, _, h => by cases h
  | .bool _ :: _, _, h => by cases h
  | .str _ :: _, _, h => by cases h
  | .list _ :: _, _, h => by cases h
  | .tuple _ :: _, _, h => by cases h
  | .dict _ :: _, _, h => by cases h
theorem boolsD_map (bs : List Bool) : boolsD (bs.map .bool) = some bs := by
  induction bs with
  | nil => rfl
  | cons b bs ih =>
    rw [List.map_cons]
    unfold boolsD
    rw [ih]
theorem boolsD_mapf {α : Type} (f : α → Bool) (xs : List α) : boolsD (xs.map fun x => .bool (f x)) = some (xs.map f) := by
  rw [← boolsD_map (xs.map f), List.map_map]
  rfl
theorem intsD_map (bs : List Int) : intsD (bs.map .int) = some bs := by
  induction bs with
  | nil => rfl
  | cons b bs ih =>
    rw [List.map_cons]
    unfold intsD
    rw [ih]
theorem intsD_mapf {α : Type} (f : α → Int) (xs : List α) : intsD (xs.map fun x => .int (f x)) = some (xs.map f) := by
  rw [← intsD_map (xs.map f), List.map_map]
  rfl
def biAll : Bi
  | [.list xs] => (boolsD xs).map fun bs => .d (.bool (bs.all id))
  | _ => none
def biAny : Bi
  | [.list xs] => (boolsD xs).map fun bs => .d (.bool (bs.any id))
  | _ => none
def biSum : Bi
  | [.list xs] => (intsD xs).map fun bs => .d (.int bs.sum)
  | [.tuple xs] => (intsD xs).map fun bs => .d (.int bs.sum)
  | _ => none
theorem biAll_eq (xs : List PyData) : biAll [.list xs] = (boolsD xs).map fun bs => .d (.bool (bs.all id)) := rfl2 rfl
theorem biAny_eq (xs : List PyData) : biAny [.list xs] = (boolsD xs).map fun bs => .d (.bool (bs.any id)) := rfl2 rfl
theorem biSum_l (xs : List PyData) : biSum [.list xs] = (intsD xs).map fun bs => .d (.int bs.sum) := rfl2 rfl
theorem biSum_t (xs : List PyData) : biSum [.tuple xs] = (intsD xs).map fun bs => .d (.int bs.sum) := rfl2 rfl
theorem biAll_ok : ∀ xs w, biAll xs = some w → ∃ z, w = .d z ∧ bAll xs z := fun xs w h => by
  unfold biAll at h
  split at h
  · obtain ⟨bs, e, rfl⟩ := Option.map_eq_some_iff.mp h
    exact ⟨_, rfl, bs, by rw [boolsD_ok e], rfl⟩
  · cases h
theorem biAny_ok : ∀ xs w, biAny xs = some w → ∃ z, w = .d z ∧ bAny xs z := fun xs w h => by
  unfold biAny at h
  split at h
  · obtain ⟨bs, e, rfl⟩ := Option.map_eq_some_iff.mp h
    exact ⟨_, rfl, bs, by rw [boolsD_ok e], rfl⟩
  · cases h
theorem biSum_ok : ∀ xs w, biSum xs = some w → ∃ z, w = .d z ∧ bSum xs z := fun xs w h => by
  unfold biSum at h
  split at h
  · obtain ⟨bs, e, rfl⟩ := Option.map_eq_some_iff.mp h
    exact ⟨_, rfl, bs, .inl (by rw [intsD_ok e]), rfl⟩
  · obtain ⟨bs, e, rfl⟩ := Option.map_eq_some_iff.mp h
    exact ⟨_, rfl, bs, .inr (by rw [intsD_ok e]), rfl⟩
  · cases h
theorem qe_all (hc : X.calm = true) (hg : Gl X "all") (hm : X.mg "all" = none) (h : FA PX E X [e] ha) (he : starEach [e] X.env = (false, eval e X.env) :: starEach [] X.env := by rfl) (hpl : (backTo pos (starEach [] X.env)).any (·.1) = false := by rfl) :
    FE PX E X (.Call (.Name "all" p) [e] [] pos) (qB biAll ha) := qe_bi (de_all hc hg hm h he hpl) biAll_ok
theorem qe_any (hc : X.calm = true) (hg : Gl X "any") (hm : X.mg "any" = none) (h : FA PX E X [e] ha) (he : starEach [e] X.env = (false, eval e X.env) :: starEach [] X.env := by rfl) (hpl : (backTo pos (starEach [] X.env)).any (·.1) = false := by rfl) :
    FE PX E X (.Call (.Name "any" p) [e] [] pos) (qB biAny ha) := qe_bi (de_any hc hg hm h he hpl) biAny_ok
theorem qe_sum (hc : X.calm = true) (hg : Gl X "sum") (hm : X.mg "sum" = none) (h : FA PX E X [e] ha) (he : starEach [e] X.env = (false, eval e X.env) :: starEach [] X.env := by rfl) (hpl : (backTo pos (starEach [] X.env)).any (·.1) = false := by rfl) :
    FE PX E X (.Call (.Name "sum" p) [e] [] pos) (qB biSum ha) := qe_bi (de_sum hc hg hm h he hpl) biSum_ok
def biMax2 : Bi
  | [.int i, .int j] => some (.d (.int (max i j)))
  | _ => none
def biMin2 : Bi
  | [.int i, .int j] => some (.d (.int (min i j)))
  | _ => none
theorem biMax2_eq (i j : Int) : biMax2 [.int i, .int j] = some (.d (.int (max i j))) := rfl2 rfl
theorem biMin2_eq (i j : Int) : biMin2 [.int i, .int j] = some (.d (.int (min i j))) := rfl2 rfl
theorem biMax2_ok : ∀ xs w, biMax2 xs = some w → ∃ z, w = .d z ∧ bMax2 xs z := fun xs w h => by
  unfold biMax2 at h
  split at h
  · cases h
    refine ⟨_, rfl, _, _, rfl, ?_⟩
    congr 1
    split <;> omega
  · cases h
theorem biMin2_ok : ∀ xs w, biMin2 xs = some w → ∃ z, w = .d z ∧ bMin2 xs z := fun xs w h => by
  unfold biMin2 at h
  split at h
  · cases h
    refine ⟨_, rfl, _, _, rfl, ?_⟩
    congr 1
    split <;> omega
  · cases h
theorem qe_max2 (hc : X.calm = true) (hg : Gl X "max") (hm : X.mg "max" = none) (h : FA PX E X [a, b] ha) (he : starEach [a, b] X.env = (false, eval a X.env) :: starEach [b] X.env := by rfl) (hpl : (backTo pos (starEach [b] X.env)).any (·.1) = false := by rfl) :
    FE PX E X (.Call (.Name "max" p) [a, b] [] pos) (qB biMax2 ha) := qe_bi (de_max2 hc hg hm h he hpl) biMax2_ok
theorem qe_min2 (hc : X.calm = true) (hg : Gl X "min") (hm : X.mg "min" = none) (h : FA PX E X [a, b] ha) (he : starEach [a, b] X.env = (false, eval a X.env) :: starEach [b] X.env := by rfl) (hpl : (backTo pos (starEach [b] X.env)).any (·.1) = false := by rfl) :
    FE PX E X (.Call (.Name "min" p) [a, b] [] pos) (qB biMin2 ha) := qe_bi (de_min2 hc hg hm h he hpl) biMin2_ok
def biDivmod : Bi
  | [.int i, .int j] => onee (dmB j) (some (.d (.tuple [.int (i / j), .int (i % j)])))
  | _ => none
theorem biDivmod_eq (i j : Int) : biDivmod [.int i, .int j] = onee (dmB j) (some (.d (.tuple [.int (i / j), .int (i % j)]))) := rfl2 rfl
theorem biDivmod_ok : ∀ xs w, biDivmod xs = some w → ∃ z, w = .d z ∧ bDivmod xs z := fun xs w h => by
  unfold biDivmod at h
  split at h
  · obtain ⟨h1, h2⟩ := onee_some h
    cases h2
    have h1 := of_decide_eq_true h1
    exact ⟨_, rfl, _, _, rfl, h1, rfl⟩
  · cases h
theorem qe_divmod (hg : Gl X "divmod") (hm : X.mg "divmod" = none) (h : FA PX E X [a, b] ha) (he : starEach [a, b] X.env = (false, eval a X.env) :: starEach [b] X.env := by rfl) (hpl : (backTo pos (starEach [b] X.env)).any (·.1) = false := by rfl) :
    FE PX E X (.Call (.Name "divmod" p) [a, b] [] pos) (qB biDivmod ha) := qe_bi (de_divmod hg hm h he hpl) biDivmod_ok
/-- data that may be shown -/
def okR (x : PyData) : Bool := ib 700 x && decide (x.depth ≤ 64) && decide (nodes x * 706 ≤ 16777216)
theorem okR_ok {x : PyData} (h : okR x = true) : OkR x := by
  unfold okR at h
  simp only [Bool.and_eq_true, decide_eq_true_eq] at h
  exact okR_of 700 h.1.1 h.1.2 h.2
def okRD (x : PyData) : Bool := ibD x && decide (x.depth ≤ 64) && decide (nodes x * 706 ≤ 16777216)
theorem okRD_ok {x : PyData} (h : okRD x = true) : OkRD x := by
  unfold okRD at h
  simp only [Bool.and_eq_true, decide_eq_true_eq] at h
  exact ⟨h.1.1, h.1.2, h.2⟩
def biRepr : Bi
  | [x] => onee (okR x || okRD x) (some (.d (.str x.shown)))
  | _ => none
theorem biRepr_eq (x : PyData) : biRepr [x] = onee (okR x || okRD x) (some (.d (.str x.shown))) := rfl2 rfl
theorem biRepr_ok : ∀ xs w, biRepr xs = some w → ∃ z, w = .d z ∧ bReprU xs z := fun xs w h => by
  unfold biRepr at h
  split at h
  · obtain ⟨h1, h2⟩ := onee_some h
    cases h2
    refine ⟨_, rfl, _, rfl, ?_, rfl⟩
    rw [Bool.or_eq_true] at h1
    rcases h1 with h1 | h1
    · exact .inl (okR_ok h1)
    · exact .inr (okRD_ok h1)
  · cases h
theorem qe_repr (hgu : X.A.guards = some []) (hu : X.A.units + 66 < cLine) (hg : Gl X "repr") (hm : X.mg "repr" = none) (h : FA PX E X [e] ha) (he : starEach [e] X.env = (false, eval e X.env) :: starEach [] X.env := by rfl) (hpl : (backTo pos (starEach [] X.env)).any (·.1) = false := by rfl) :
    FE PX E X (.Call (.Name "repr" p) [e] [] pos) (qB biRepr ha) := qe_bi (de_reprU hgu hu hg hm h he hpl) biRepr_ok
def nfnB (x : PyData) : Bool := !fakD x
theorem nfnB_int (i : Int) : nfnB (.int i) = true := rfl2 rfl
theorem nfnB_str (i : Str) : nfnB (.str i) = true := rfl2 rfl
theorem nfnB_bool (i : Bool) : nfnB (.bool i) = true := rfl2 rfl
theorem nfnB_none : nfnB .none = true := rfl2 rfl
theorem nfnB_tup (i : List PyData) : nfnB (.tuple i) = true := rfl2 rfl
theorem nfnB_lst (i : List PyData) : nfnB (.list i) = true := rfl2 rfl
def isiK2 (f : PyData → Bool) (r : DEnv) (x : PyData) : Out (Vl × DEnv) := need (nfnB x) (.ok (.d (.bool (f x)), r))
def isiK (f : PyData → Bool) (s : Vl) (r : DEnv) : Out (Vl × DEnv) := opt (rd r s) (isiK2 f r)
def qIsi (f : PyData → Bool) (fa : FT) (r : DEnv) : Out (Vl × DEnv) := bind2 (fa r) (isiK f)
theorem isiK2_eq (f : PyData → Bool) (r : DEnv) (x : PyData) : isiK2 f r x = need (nfnB x) (.ok (.d (.bool (f x)), r)) := rfl2 rfl
theorem isiK_eq (f : PyData → Bool) (s : Vl) (r : DEnv) : isiK f s r = opt (rd r s) (isiK2 f r) := rfl2 rfl
theorem qIsi_eq (f : PyData → Bool) (fa : FT) (r : DEnv) : qIsi f fa r = bind2 (fa r) (isiK f) := rfl2 rfl
theorem qe_isi {T : String} {f : PyData → Bool} {x : Str} {p2 : Pos} (hT : ∀ d, kitB (tyOf d) T = some (f d)) (hg : Gl X "isinstance") (hm : X.mg "isinstance" = none) (h : FE PX E X e fa) (hx : PE X (.Name x p2) (tC (.ty T)))
    (he : starEach [e, .Name x p2] X.env = (false, eval e X.env) :: starEach [.Name x p2] X.env := by rfl) (he2 : starEach [.Name x p2] X.env = (false, eval (.Name x p2) X.env) :: starEach [] X.env := by rfl) (hpl : (backTo pos (starEach [.Name x p2] X.env)).any (·.1) = false := by rfl) :
    FE PX E X (.Call (.Name "isinstance" p) [e, .Name x p2] [] pos) (qIsi f fa) := fe_of (de_isi hT hg hm h hx he he2 hpl) fun r P p => by
  unfold ofT qIsi at p
  refine wp2_mono (wp2_bind2 p) fun s r1 q => ?_
  unfold isiK at q
  obtain ⟨x, e, q⟩ := wp2_opt q
  unfold isiK2 at q
  obtain ⟨nf, q⟩ := wp2_need q
  refine ⟨x, e, ?_, q⟩
  unfold nfnB at nf
  cases z : fakD x with
  | false => rfl
  | true => rw [z] at nf; cases nf
end
end DL
set_option Elab.async false
set_option linter.all false
set_option autoImplicit false
set_option maxRecDepth 100000
set_option maxHeartbeats 4000000
/-! FLc: readings as functions, part three: statements, loops, comprehensions, calls, defs. -/
namespace DL
open PySem PySem.Spec PyProof.Rows L2 Out
/-- how a statement ends -/
inductive Fl where
  | nx (r : DEnv)
  | rt (s : Sl) (r : DEnv)
  | bk (r : DEnv)
  | ct (r : DEnv)
abbrev FS := DEnv → Out Fl
def Fl.to (P : DEnds) : Fl → Prop
  | .nx r => P.nx r
  | .rt s r => P.rt s r
  | .bk r => P.bk r
  | .ct r => P.ct r
def ofS (PX : Exn → Prop) (g : FS) : DTS := fun P r => (g r).wp PX (Fl.to P)
abbrev FSt (PX : Exn → Prop) (E : Ent) (X : Cx) (s : Stmt) (g : FS) : Prop := DS E X s (ofS PX g)
abbrev FSs (PX : Exn → Prop) (E : Ent) (X : Cx) (s : List Stmt) (g : FS) : Prop := DSs E X s (ofS PX g)
section
variable {PX : Exn → Prop} {X : Cx} {E : Ent} {e a b c tg vl : Expr} {es : List Expr} {pos p p2 : Pos} {fa fb fc : FT} {ta tb : FTT} {ga gi : FTF} {ha : FTA} {K : PySem.W.Frag} {F H : Hp} {st : St} {r : DEnv} {sm : Stmt} {rest body s1 s2 : List Stmt} {g g1 g2 : FS}
theorem fs_of {d : DTS} (h : DS E X sm d) (k : ∀ P r, ofS PX g P r → d P r) : FSt PX E X sm g := wkS h fun D st H ⟨F, r, P, R, p, q⟩ => ⟨F, r, P, R, k P r p, q⟩
theorem fss_of {d : DTS} (h : DSs E X rest d) (k : ∀ P r, ofS PX g P r → d P r) : FSs PX E X rest g := wkSs h fun D st H ⟨F, r, P, R, p, q⟩ => ⟨F, r, P, R, k P r p, q⟩
def qsNext (r : DEnv) : Out Fl := .ok (.nx r)
def qsBrk (r : DEnv) : Out Fl := .ok (.bk r)
def qsCnt (r : DEnv) : Out Fl := .ok (.ct r)
def qsNever (r : DEnv) : Out Fl := .bad
def seqK (g2 : FS) (f : Fl) : Out Fl := match f with
  | .nx r => g2 r
  | .rt s r => .ok (.rt s r)
  | .bk r => .ok (.bk r)
  | .ct r => .ok (.ct r)
def qsSeq (g1 g2 : FS) (r : DEnv) : Out Fl := bind (g1 r) (seqK g2)
theorem qsNext_eq (r : DEnv) : qsNext r = .ok (.nx r) := rfl2 rfl
theorem qsBrk_eq (r : DEnv) : qsBrk r = .ok (.bk r) := rfl2 rfl
theorem qsCnt_eq (r : DEnv) : qsCnt r = .ok (.ct r) := rfl2 rfl
theorem seqK_nx (g2 : FS) (r : DEnv) : seqK g2 (.nx r) = g2 r := rfl2 rfl
theorem seqK_rt (g2 : FS) (s : Sl) (r : DEnv) : seqK g2 (.rt s r) = .ok (.rt s r) := rfl2 rfl
theorem seqK_bk (g2 : FS) (r : DEnv) : seqK g2 (.bk r) = .ok (.bk r) := rfl2 rfl
theorem seqK_ct (g2 : FS) (r : DEnv) : seqK g2 (.ct r) = .ok (.ct r) := rfl2 rfl
theorem qsSeq_eq (g1 g2 : FS) (r : DEnv) : qsSeq g1 g2 r = bind (g1 r) (seqK g2) := rfl2 rfl
theorem qss_nil : FSs PX E X [] qsNext := dss_nil
theorem qss_one (h : FSt PX E X sm g) : FSs PX E X [sm] g := dss_one h
theorem qss_cons (h1 : FSt PX E X sm g1) (h2 : FSs PX E X rest g2) : FSs PX E X (sm :: rest) (qsSeq g1 g2) := fss_of (dss_cons h1 h2) fun P r p => by
  unfold ofS qsSeq at p
  refine wp_mono (wp_bind p) fun f q => ?_
  cases f <;> exact q
theorem qs_pass : FSt PX E X (.Pass pos) qsNext := ds_pass
theorem qs_break : FSt PX E X (.Break pos) qsBrk := ds_break
theorem qs_cont : FSt PX E X (.Continue pos) qsCnt := ds_cont
theorem qs_never : FSt PX E X sm qsNever := fs_of ds_never fun P r p => p
def dropK (s : Vl) (r : DEnv) : Out Fl := .ok (.nx r)
def qsDrop (fa : FT) (r : DEnv) : Out Fl := bind2 (fa r) dropK
theorem dropK_eq (s : Vl) (r : DEnv) : dropK s r = .ok (.nx r) := rfl2 rfl
theorem qsDrop_eq (fa : FT) (r : DEnv) : qsDrop fa r = bind2 (fa r) dropK := rfl2 rfl
theorem qs_expr (h : FE PX E X e fa) (hs : swapsWith e none pos.line X.env = pure false := by rfl) : FSt PX E X (.Expr e pos) (qsDrop fa) := fs_of (ds_expr h hs) fun P r p => wp_bind2 p
def retV (r : DEnv) (o : Option (Option Sl)) : Out Fl := match o with
  | some (some (.l x)) => .ok (.rt (.l x) r)
  | some (some (.d x)) => .ok (.rt (.d x) r)
  | _ => .bad
def retK (s : Vl) (r : DEnv) : Out Fl := match s with
  | .d x => .ok (.rt (.d x) r)
  | .n x => .ok (.rt (.l x) r)
  | .v i => retV r r[i]?
def qsRet (fa : FT) (r : DEnv) : Out Fl := bind2 (fa r) retK
theorem retK_d (x : PyData) (r : DEnv) : retK (.d x) r = .ok (.rt (.d x) r) := rfl2 rfl
theorem retK_n (x : PyData) (r : DEnv) : retK (.n x) r = .ok (.rt (.l x) r) := rfl2 rfl
theorem retK_v (i : Nat) (r : DEnv) : retK (.v i) r = retV r r[i]? := rfl2 rfl
theorem retV_l (r : DEnv) (x : PyData) : retV r (some (some (.l x))) = .ok (.rt (.l x) r) := rfl2 rfl
theorem retV_d (r : DEnv) (x : PyData) : retV r (some (some (.d x))) = .ok (.rt (.d x) r) := rfl2 rfl
theorem qsRet_eq (fa : FT) (r : DEnv) : qsRet fa r = bind2 (fa r) retK := rfl2 rfl
theorem qs_ret (h : FE PX E X e fa) : FSt PX E X (.Return (some e) pos) (qsRet fa) := fs_of (ds_ret h) fun P r p => by
  unfold ofS qsRet at p
  refine wp2_mono (wp_bind2 p) fun s r1 q => ?_
  cases s with
  | d x => exact q
  | n x => exact q
  | v i =>
    have q : (match r1[i]? with
      | some (some (.l x)) => .ok (.rt (.l x) r1)
      | some (some (.d x)) => .ok (.rt (.d x) r1)
      | _ => .bad : Out Fl).wp PX (Fl.to P) := q
    show match r1[i]? with
    | some (some (.l x)) => P.rt (.l x) r1
    | some (some (.d x)) => P.rt (.d x) r1
    | _ => False
    split at q
    · exact q
    · exact q
    · exact q.elim
def qsRetN (r : DEnv) : Out Fl := .ok (.rt (.d .none) r)
theorem qsRetN_eq (r : DEnv) : qsRetN r = .ok (.rt (.d .none) r) := rfl2 rfl
theorem qs_retN : FSt PX E X (.Return none pos) qsRetN := ds_retN
def ifSK (g1 g2 : FS) (c : Bool) (r : DEnv) : Out Fl := match c with
  | true => g1 r
  | false => g2 r
def qsIf (t : FTT) (g1 g2 : FS) (r : DEnv) : Out Fl := bind2 (t r) (ifSK g1 g2)
theorem ifSK_t (g1 g2 : FS) (r : DEnv) : ifSK g1 g2 true r = g1 r := rfl2 rfl
theorem ifSK_f (g1 g2 : FS) (r : DEnv) : ifSK g1 g2 false r = g2 r := rfl2 rfl
theorem qsIf_eq (t : FTT) (g1 g2 : FS) (r : DEnv) : qsIf t g1 g2 r = bind2 (t r) (ifSK g1 g2) := rfl2 rfl
theorem qs_if (hc : FTe PX E X c ta) (h1 : FSs PX E X s1 g1) (h2 : FSs PX E X s2 g2) : FSt PX E X (.If c s1 s2 pos) (qsIf ta g1 g2) := fs_of (ds_if hc h1 h2) fun P r p => by
  unfold ofS qsIf at p
  refine wp2_mono (wp_bind2 p) fun c r1 q => ?_
  cases c <;> exact q
def setK (i : Nat) (s : Vl) (r : DEnv) : Out Fl := match s with
  | .d x => .ok (.nx (r.set i (some (.d x))))
  | .n x => .ok (.nx (r.set i (some (.l x))))
  | .v _ => .bad
def qsSet (i : Nat) (fa : FT) (r : DEnv) : Out Fl := bind2 (fa r) (setK i)
theorem setK_d (i : Nat) (x : PyData) (r : DEnv) : setK i (.d x) r = .ok (.nx (r.set i (some (.d x)))) := rfl2 rfl
theorem setK_n (i : Nat) (x : PyData) (r : DEnv) : setK i (.n x) r = .ok (.nx (r.set i (some (.l x)))) := rfl2 rfl
theorem qsSet_eq (i : Nat) (fa : FT) (r : DEnv) : qsSet i fa r = bind2 (fa r) (setK i) := rfl2 rfl
theorem qsSet_d {i : Nat} {P : DEnds} (p : ofS PX (qsSet i fa) P r) : sSet i (ofT PX fa) P r := by
  unfold ofS qsSet at p
  refine wp2_mono (wp_bind2 p) fun s r1 q => ?_
  cases s <;> exact q
theorem qs_set {i : Nat} (h : PS X (.Assign [tg] e pos) (tAsg (tD X.K E (ofT PX fa)) (gName i))) : FSt PX E X (.Assign [tg] e pos) (qsSet i fa) := fs_of (ds_set h) fun P r p => qsSet_d p
/-! ### targets -/
abbrev FTg := PyData → DEnv → Out DEnv
abbrev FTgs := List PyData → DEnv → Out DEnv
def ofG (PX : Exn → Prop) (g : FTg) : DTG := fun x r Q => (g x r).wp PX Q
def ofGs (PX : Exn → Prop) (g : FTgs) : DTGs := fun x r Q => (g x r).wp PX Q
def tName (i : Nat) (x : PyData) (r : DEnv) : Out DEnv := .ok (r.set i (some (.d x)))
def tNil (xs : List PyData) (r : DEnv) : Out DEnv := match xs with
  | [] => .ok r
  | _ => .bad
def tCons (g : FTg) (gs : FTgs) (xs : List PyData) (r : DEnv) : Out DEnv := match xs with
  | x :: xs => bind (g x r) (gs xs)
  | [] => .bad
def tTupT (n : Nat) (gs : FTgs) (x : PyData) (r : DEnv) : Out DEnv := match x with
  | .tuple xs => need (natB xs.length n) (gs xs r)
  | _ => .bad
theorem tName_eq (i : Nat) (x : PyData) (r : DEnv) : tName i x r = .ok (r.set i (some (.d x))) := rfl2 rfl
theorem tNil_eq (r : DEnv) : tNil [] r = .ok r := rfl2 rfl
theorem tCons_eq (g : FTg) (gs : FTgs) (x : PyData) (xs : List PyData) (r : DEnv) : tCons g gs (x :: xs) r = bind (g x r) (gs xs) := rfl2 rfl
theorem tTupT_eq (n : Nat) (gs : FTgs) (xs : List PyData) (r : DEnv) : tTupT n gs (.tuple xs) r = need (natB xs.length n) (gs xs r) := rfl2 rfl
theorem fg_of {t : FTg} {d : DTG} (h : PG X tg (tDG X.K E d)) (k : ∀ x r Q, ofG PX t x r Q → d x r Q) : PG X tg (tDG X.K E (ofG PX t)) := wkG h fun v st H Q ⟨F, r, P, x, R, q, p, kk⟩ => ⟨F, r, P, x, R, q, k x r P p, kk⟩
theorem fgs_of {t : FTgs} {d : DTGs} {tgs : List Expr} (h : PGs X tgs (tDGs X.K E d)) (k : ∀ x r Q, ofGs PX t x r Q → d x r Q) : PGs X tgs (tDGs X.K E (ofGs PX t)) := wkGs h fun v st H Q ⟨F, r, P, x, R, q, p, kk⟩ => ⟨F, r, P, x, R, q, k x r P p, kk⟩
theorem qg_name {i : Nat} (h : PG X tg (gName i)) : PG X tg (tDG X.K E (ofG PX (tName i))) := dg_name h
theorem qgs_nil : PGs X [] (tDGs X.K E (ofGs PX tNil)) := fgs_of dgs_nil fun xs r Q p => by
  cases xs with
  | nil => exact ⟨rfl, p⟩
  | cons x xs => exact p.elim
theorem tCons_d {t : FTg} {ts : FTgs} {xs : List PyData} {Q : DEnv → Prop} (p : ofGs PX (tCons t ts) xs r Q) : hCons (ofG PX t) (ofGs PX ts) xs r Q := by
  cases xs with
  | nil => exact p.elim
  | cons x xs => exact ⟨x, xs, rfl, wp_mono (wp_bind (show (bind (t x r) (ts xs)).wp PX Q from p)) fun r1 q => q⟩
theorem qgs_cons {t : Expr} {ts : List Expr} {tx : FTg} {tsx : FTgs} (h1 : PG X t (tDG X.K E (ofG PX tx))) (h2 : PGs X ts (tDGs X.K E (ofGs PX tsx))) (hs : (assignEach (t :: ts) X.env).map (·.2) = assign t X.env :: (assignEach ts X.env).map (·.2) := by rfl) :
    PGs X (t :: ts) (tDGs X.K E (ofGs PX (tCons tx tsx))) := fgs_of (dgs_cons h1 h2 hs) fun xs r Q p => tCons_d p
theorem tTupT_d {n : Nat} {ts : FTgs} {x : PyData} {Q : DEnv → Prop} (p : ofG PX (tTupT n ts) x r Q) : hTup n (ofGs PX ts) x r Q := by
  unfold ofG tTupT at p
  split at p
  · obtain ⟨h, q⟩ := wp_need p
    exact ⟨_, rfl, natB_iff.mp h, q⟩
  · exact p.elim
theorem qg_tup {tsx : FTgs} {n : Nat} (h : PG X tg (gTup X.K n (tDGs X.K E (ofGs PX tsx)))) : PG X tg (tDG X.K E (ofG PX (tTupT n tsx))) := fg_of (dg_tup h) fun x r Q p => tTupT_d p
def nxK (r : DEnv) : Out Fl := .ok (.nx r)
def asgK (t : FTg) (s : Vl) (r : DEnv) : Out Fl := match s with
  | .d x => bind (t x r) nxK
  | _ => .bad
def qsAsg (fa : FT) (t : FTg) (r : DEnv) : Out Fl := bind2 (qFz fa r) (asgK t)
theorem nxK_eq (r : DEnv) : nxK r = .ok (.nx r) := rfl2 rfl
theorem asgK_eq (t : FTg) (x : PyData) (r : DEnv) : asgK t (.d x) r = bind (t x r) nxK := rfl2 rfl
theorem qsAsg_eq (fa : FT) (t : FTg) (r : DEnv) : qsAsg fa t r = bind2 (qFz fa r) (asgK t) := rfl2 rfl
theorem qs_asg {t : FTg} (h : PS X (.Assign [tg] e pos) (tAsg (tD X.K E (ofT PX (qFz fa))) (tDG X.K E (ofG PX t)))) : FSt PX E X (.Assign [tg] e pos) (qsAsg fa t) := by
  have h2 : PS X (.Assign [tg] e pos) (tAsg (tD X.K E (dFz (ofT PX (qFz fa)))) (tDG X.K E (ofG PX t))) := wkS h fun D st H q => by
    obtain ⟨F, r, P, R, p, k⟩ := q
    refine ⟨F, r, _, R, p, fun s r' v F' H' q A ok n => ?_⟩
    cases s with
    | d x => exact k _ _ _ _ _ q A ok n
    | n x =>
      obtain ⟨F2, A2, g, ok2⟩ := A.frz R ok n
      exact k _ _ _ _ _ q A2 ok2 trivial
    | v i =>
      have hv : st[i]? = some (some v) := ok
      have q : (match r'[i]? with
        | some (some (.l x)) => P (.d x) (setD r' i x)
        | some (some (.d x)) => P (.d x) r'
        | _ => False) := q
      split at q
      · rename_i x e
        obtain ⟨F2, B, ok2⟩ := A.rel.frzAt e hv
        exact k _ _ _ _ _ q (A.trans B) ok2 trivial
      · rename_i x e
        obtain ⟨w, q1, q2⟩ := A.rel.dat i x e
        rw [hv] at q1
        cases q1
        exact k _ _ _ _ _ q A q2 trivial
      · exact q.elim
  refine fs_of (ds_asg h2) fun P r p => ?_
  unfold ofS qsAsg at p
  have p := wp_bind2 p
  show dFz (ofT PX (qFz fa)) r fun s r1 => ∃ x, s = .d x ∧ ofG PX t x r1 P.nx
  unfold dFz ofT
  refine wp2_mono p fun s r1 q => ?_
  cases s with
  | d x => exact ⟨x, rfl, wp_mono (wp_bind (show (bind (t x r1) nxK).wp PX (Fl.to P) from q)) fun r2 q => q⟩
  | n x => exact q.elim
  | v i => exact q.elim
/-! ### several names at once -/
def putQ (r : DEnv) : List Nat → List Vl → Out Fl
  | [], [] => .ok (.nx r)
  | i :: is, .d x :: ss => putQ (r.set i (some (.d x))) is ss
  | i :: is, .n x :: ss => putQ (r.set i (some (.l x))) is ss
  | _, _ => .bad
theorem putQ_nil (r : DEnv) : putQ r [] [] = .ok (.nx r) := rfl2 rfl
theorem putQ_d (r : DEnv) (i : Nat) (is : List Nat) (x : PyData) (ss : List Vl) : putQ r (i :: is) (.d x :: ss) = putQ (r.set i (some (.d x))) is ss := rfl2 rfl
theorem putQ_n (r : DEnv) (i : Nat) (is : List Nat) (x : PyData) (ss : List Vl) : putQ r (i :: is) (.n x :: ss) = putQ (r.set i (some (.l x))) is ss := rfl2 rfl
theorem putQ_all {P : DEnds} : ∀ {is : List Nat} {ss : List Vl} {r : DEnv}, (putQ r is ss).wp PX (Fl.to P) → (∀ s ∈ ss, ∀ i, s ≠ .v i) ∧ ss.length = is.length ∧ putAll r is ss P.nx
  | [], [], r, h => ⟨fun _ z => (nomatch z), rfl, h⟩
  | i :: is, .d x :: ss, r, h => by
    obtain ⟨h1, h2, h3⟩ := putQ_all (is := is) (ss := ss) h
    refine ⟨fun s z j e => ?_, congrArg (· + 1) h2, h3⟩
    rcases List.mem_cons.mp z with z | z
    · subst z; cases e
    · exact h1 s z j e
  | i :: is, .n x :: ss, r, h => by
    obtain ⟨h1, h2, h3⟩ := putQ_all (is := is) (ss := ss) h
    refine ⟨fun s z j e => ?_, congrArg (· + 1) h2, h3⟩
    rcases List.mem_cons.mp z with z | z
    · subst z; cases e
    · exact h1 s z j e
  | i :: is, .v x :: ss, r, h => h.elim
  | [], .v x :: ss, r, h => h.elim
  | [], .d x :: ss, r, h => h.elim
  | [], .n x :: ss, r, h => h.elim
  | i :: is, [], r, h => h.elim
def parK (is : List Nat) (ss : List Vl) (r : DEnv) : Out Fl := putQ r is ss
def qsPar (is : List Nat) (ha : FTA) (r : DEnv) : Out Fl := bind2 (ha r) (parK is)
theorem parK_eq (is : List Nat) (ss : List Vl) (r : DEnv) : parK is ss r = putQ r is ss := rfl2 rfl
theorem qsPar_eq (is : List Nat) (ha : FTA) (r : DEnv) : qsPar is ha r = bind2 (ha r) (parK is) := rfl2 rfl
theorem qsPar_d {is : List Nat} {P : DEnds} (p : ofS PX (qsPar is ha) P r) : sPar is (ofT PX ha) P r := by
  unfold ofS qsPar at p
  exact wp2_mono (wp_bind2 p) fun ss r1 q => putQ_all q
theorem qs_par {i j : Nat} (h : PS X (.Assign [tg] vl pos) (tPar i j (tDM X.K E (ofT PX ha)))) : FSt PX E X (.Assign [tg] vl pos) (qsPar [i, j] ha) := fs_of (ds_par h) fun P r p => qsPar_d p
theorem qs_par3 {i j l : Nat} (h : PS X (.Assign [tg] vl pos) (tPar3 i j l (tDM X.K E (ofT PX ha)))) : FSt PX E X (.Assign [tg] vl pos) (qsPar [i, j, l] ha) := fs_of (ds_par3 h) fun P r p => qsPar_d p
theorem qs_parN {is : List Nat} (h : PS X (.Assign [tg] vl pos) (tAsg (tTup (tDM X.K E (ofT PX ha))) (gTup X.K is.length (gNames is)))) (hz : is.length ≤ sizeLine) : FSt PX E X (.Assign [tg] vl pos) (qsPar is ha) := fs_of (ds_parN h hz) fun P r p => qsPar_d p
/-! ### lists that are changed -/
def appK2 (i : Nat) (ys : List PyData) (r : DEnv) (o : Option (Option Sl)) : Out Fl := match ys, o with
  | [y], some (some (.l (.list xs))) => need (lenLt xs.length) (.ok (.nx (r.set i (some (.l (.list (xs ++ [y])))))))
  | [y], some (some (.b (.list xs))) => need (lenLt xs.length) (.ok (.nx (r.set i (some (.b (.list (xs ++ [y])))))))
  | _, _ => .bad
def appK (i : Nat) (ys : List PyData) (r : DEnv) : Out Fl := appK2 i ys r r[i]?
def appK0 (i : Nat) (ga : FTF) (r : DEnv) (o : PyData) : Out Fl := match o with
  | .list _ => bind2 (ga r) (appK i)
  | _ => .bad
def qsApp (i : Nat) (ga : FTF) (r : DEnv) : Out Fl := opt (slotD r i) (appK0 i ga r)
theorem appK0_eq (i : Nat) (ga : FTF) (r : DEnv) (xs : List PyData) : appK0 i ga r (.list xs) = bind2 (ga r) (appK i) := rfl2 rfl
theorem qsApp_eq (i : Nat) (ga : FTF) (r : DEnv) : qsApp i ga r = opt (slotD r i) (appK0 i ga r) := rfl2 rfl
theorem appK_eq (i : Nat) (ys : List PyData) (r : DEnv) : appK i ys r = appK2 i ys r r[i]? := rfl2 rfl
theorem appK2_l (i : Nat) (y : PyData) (xs : List PyData) (r : DEnv) : appK2 i [y] r (some (some (.l (.list xs)))) = need (lenLt xs.length) (.ok (.nx (r.set i (some (.l (.list (xs ++ [y]))))))) := rfl2 rfl
theorem appK2_b (i : Nat) (y : PyData) (xs : List PyData) (r : DEnv) : appK2 i [y] r (some (some (.b (.list xs)))) = need (lenLt xs.length) (.ok (.nx (r.set i (some (.b (.list (xs ++ [y]))))))) := rfl2 rfl
theorem qs_app {i : Nat} (h : PS X (.Expr e pos) (tDrop (tBM X.K "list" rAppend (tVar i) (tDF X.K E (ofT PX ga))))) : FSt PX E X (.Expr e pos) (qsApp i ga) := fs_of (ds_app h) fun P r p => by
  unfold ofS qsApp at p
  obtain ⟨o, e0, p⟩ := wp_opt p
  unfold appK0 at p
  split at p
  · rename_i xs0
    refine ⟨⟨xs0, e0⟩, wp2_mono (wp_bind2 p) fun ys r1 q => ?_⟩
    unfold appK appK2 at q
    split at q
    · rename_i y xs e1
      obtain ⟨h1, q⟩ := wp_need q
      refine ⟨y, xs, _, rfl, e1, rfl, rfl, lenLt_iff.mp h1, ?_⟩
      unfold setC
      simp only [e1]
      exact q
    · rename_i y xs e1
      obtain ⟨h1, q⟩ := wp_need q
      refine ⟨y, xs, _, rfl, e1, rfl, rfl, lenLt_iff.mp h1, ?_⟩
      unfold setC
      simp only [e1]
      exact q
    · exact q.elim
  · exact p.elim
def putK4 (s : PyData → Sl) (i : Nat) (y : PyData) (r : DEnv) (xs : List PyData) (j : Nat) : Out Fl := .ok (.nx (r.set i (some (s (.list (xs.set j y))))))
def putK3 (i : Nat) (y : PyData) (k : Int) (r : DEnv) (o : Option (Option Sl)) : Out Fl := match o with
  | some (some (.l (.list xs))) => opt (ixN xs.length k) (putK4 .l i y r xs)
  | some (some (.b (.list xs))) => opt (ixN xs.length k) (putK4 .b i y r xs)
  | _ => .bad
def putK2 (i : Nat) (y : PyData) (u : Vl) (r : DEnv) : Out Fl := match u with
  | .d (.int k) => putK3 i y k r r[i]?
  | _ => .bad
def putK1 (i : Nat) (fk : FT) (s : Vl) (r : DEnv) : Out Fl := match s with
  | .d y => bind2 (fk r) (putK2 i y)
  | _ => .bad
def putK0 (i : Nat) (fe fk : FT) (r : DEnv) (o : PyData) : Out Fl := match o with
  | .list _ => bind2 (qFz fe r) (putK1 i fk)
  | _ => .bad
def qsPut (i : Nat) (fe fk : FT) (r : DEnv) : Out Fl := opt (slotD r i) (putK0 i fe fk r)
theorem putK0_eq (i : Nat) (fe fk : FT) (r : DEnv) (xs : List PyData) : putK0 i fe fk r (.list xs) = bind2 (qFz fe r) (putK1 i fk) := rfl2 rfl
theorem putK1_eq (i : Nat) (fk : FT) (y : PyData) (r : DEnv) : putK1 i fk (.d y) r = bind2 (fk r) (putK2 i y) := rfl2 rfl
theorem qsPut_eq (i : Nat) (fe fk : FT) (r : DEnv) : qsPut i fe fk r = opt (slotD r i) (putK0 i fe fk r) := rfl2 rfl
theorem putK2_eq (i : Nat) (y : PyData) (k : Int) (r : DEnv) : putK2 i y (.d (.int k)) r = putK3 i y k r r[i]? := rfl2 rfl
theorem putK3_l (i : Nat) (y : PyData) (k : Int) (r : DEnv) (xs : List PyData) : putK3 i y k r (some (some (.l (.list xs)))) = opt (ixN xs.length k) (putK4 .l i y r xs) := rfl2 rfl
theorem putK3_b (i : Nat) (y : PyData) (k : Int) (r : DEnv) (xs : List PyData) : putK3 i y k r (some (some (.b (.list xs)))) = opt (ixN xs.length k) (putK4 .b i y r xs) := rfl2 rfl
theorem putK4_eq (s : PyData → Sl) (i : Nat) (y : PyData) (r : DEnv) (xs : List PyData) (j : Nat) : putK4 s i y r xs j = .ok (.nx (r.set i (some (s (.list (xs.set j y)))))) := rfl2 rfl
theorem qs_put {i : Nat} {fk : FT} (h : PS X (.Assign [tg] e pos) (tAsg (tD X.K E (dFz (ofT PX fa))) (gSub (tVar i) (tD X.K E (ofT PX fk)) rSetL))) : FSt PX E X (.Assign [tg] e pos) (qsPut i fa fk) := fs_of (ds_put h) fun P r p => by
  unfold ofS qsPut at p
  obtain ⟨o, e0, p⟩ := wp_opt p
  unfold putK0 at p
  split at p
  · rename_i xs0
    refine ⟨⟨xs0, e0⟩, ?_⟩
    show dFz (ofT PX fa) r _
    refine qFz_d (PX := PX) (wp2_mono (wp_bind2 p) fun s r1 q => ?_)
    unfold putK1 at q
    split at q
    · rename_i y
      refine ⟨y, rfl, wp2_mono (wp_bind2 q) fun u r2 q => ?_⟩
      unfold putK2 at q
      split at q
      · rename_i k
        unfold putK3 at q
        split at q
        · rename_i xs e1
          obtain ⟨j, ej, q⟩ := wp_opt q
          refine ⟨k, j, xs, _, rfl, e1, rfl, rfl, ej, ?_⟩
          unfold setC
          simp only [e1]
          exact q
        · rename_i xs e1
          obtain ⟨j, ej, q⟩ := wp_opt q
          refine ⟨k, j, xs, _, rfl, e1, rfl, rfl, ej, ?_⟩
          unfold setC
          simp only [e1]
          exact q
        · exact q.elim
      · exact q.elim
    · exact q.elim
  · exact p.elim
def augK2 (i : Nat) (w : Vl) (r : DEnv) : Out Fl := match w with
  | .d z => .ok (.nx (r.set i (some (.d z))))
  | _ => .bad
def augK3 (i : Nat) (r : DEnv) (w : Vl) : Out Fl := augK2 i w r
def augK1b (i : Nat) (op : Op2) (x : PyData) (r : DEnv) (y : PyData) : Out Fl := opt (op x y) (augK3 i r)
def augK1 (i : Nat) (op : Op2) (x : PyData) (s : Vl) (r : DEnv) : Out Fl := opt (rd r s) (augK1b i op x r)
def augK0 (i : Nat) (op : Op2) (fe : FT) (r : DEnv) (o : Option Sl) : Out Fl := match o with
  | some (.d x) => bind2 (fe r) (augK1 i op x)
  | _ => .bad
def qsAug (i : Nat) (op : Op2) (fe : FT) (r : DEnv) : Out Fl := opt r[i]? (augK0 i op fe r)
theorem augK3_eq (i : Nat) (r : DEnv) (z : PyData) : augK3 i r (.d z) = .ok (.nx (r.set i (some (.d z)))) := rfl2 rfl
theorem augK1b_eq (i : Nat) (op : Op2) (x y : PyData) (r : DEnv) : augK1b i op x r y = opt (op x y) (augK3 i r) := rfl2 rfl
theorem augK1_eq (i : Nat) (op : Op2) (x : PyData) (s : Vl) (r : DEnv) : augK1 i op x s r = opt (rd r s) (augK1b i op x r) := rfl2 rfl
theorem augK0_eq (i : Nat) (op : Op2) (fe : FT) (r : DEnv) (x : PyData) : augK0 i op fe r (some (.d x)) = bind2 (fe r) (augK1 i op x) := rfl2 rfl
theorem qsAug_eq (i : Nat) (op : Op2) (fe : FT) (r : DEnv) : qsAug i op fe r = opt r[i]? (augK0 i op fe r) := rfl2 rfl
theorem qs_aug {i : Nat} {op : Operator} {ti : TIp} {B : PyData → PyData → PyData → Prop} {o2 : Op2} (h : PS X (.AugAssign tg op e pos) (tAug i (tD X.K E (ofT PX fa)) ti)) (hB : OpB X.K (fun x y H Q => ti x y H Q) B) (hk : ∀ x y w, o2 x y = some w → ∃ z, w = .d z ∧ B x y z) :
    FSt PX E X (.AugAssign tg op e pos) (qsAug i o2 fa) := fs_of (ds_aug h hB) fun P r p => by
  unfold ofS qsAug at p
  obtain ⟨o, e0, p⟩ := wp_opt p
  unfold augK0 at p
  split at p
  · rename_i x
    refine ⟨x, e0, wp2_mono (wp_bind2 p) fun s r1 q => ?_⟩
    unfold augK1 at q
    obtain ⟨y, e1, q⟩ := wp_opt q
    obtain ⟨w, e2, q⟩ := wp_opt q
    obtain ⟨z, rfl, hb⟩ := hk _ _ _ e2
    exact ⟨y, z, e1, hb, q⟩
  · exact p.elim
/-! ### loops -/
def iSeqK (s : Vl) (r : DEnv) : Out (List PyData × DEnv) := match s with
  | .d (.list xs) => .ok (xs, r)
  | .d (.tuple xs) => .ok (xs, r)
  | _ => .bad
def qiSeq (fa : FT) (r : DEnv) : Out (List PyData × DEnv) := bind2 (qFz fa r) iSeqK
theorem iSeqK_l (xs : List PyData) (r : DEnv) : iSeqK (.d (.list xs)) r = .ok (xs, r) := rfl2 rfl
theorem iSeqK_t (xs : List PyData) (r : DEnv) : iSeqK (.d (.tuple xs)) r = .ok (xs, r) := rfl2 rfl
theorem qiSeq_eq (fa : FT) (r : DEnv) : qiSeq fa r = bind2 (qFz fa r) iSeqK := rfl2 rfl
theorem fi_of {it : Expr} {f : FTF} {d : DTF} (h : PI X tg it (tDI X.K E d)) (k : ∀ r P, ofT PX f r P → d r P) : PI X tg it (tDI X.K E (ofT PX f)) := wkI h fun st H R ⟨F, r, P, R0, p, q⟩ => ⟨F, r, P, R0, k r P p, q⟩
theorem qi_seq (h : FE PX E X e fa) : PI X tg e (tDI X.K E (ofT PX (qiSeq fa))) := fi_of (di_seq h) fun r P p => by
  unfold ofT qiSeq at p
  show dFz (ofT PX fa) r _
  refine qFz_d (PX := PX) (wp2_mono (wp2_bind2 p) fun s r1 q => ?_)
  unfold iSeqK at q
  split at q
  · exact ⟨_, .inl rfl, q⟩
  · exact ⟨_, .inr rfl, q⟩
  · exact q.elim
def iR1K (xs : List PyData) (r : DEnv) : Out (List PyData × DEnv) := match xs with
  | [.int j] => need (rngB j) (.ok (rngL 0 j.toNat, r))
  | _ => .bad
def qiR1 (ga : FTF) (r : DEnv) : Out (List PyData × DEnv) := bind2 (ga r) iR1K
def iR2K (xs : List PyData) (r : DEnv) : Out (List PyData × DEnv) := match xs with
  | [.int i, .int j] => need (rngB i && rngB j) (.ok (rngL i (j - i).toNat, r))
  | _ => .bad
def qiR2 (ga : FTF) (r : DEnv) : Out (List PyData × DEnv) := bind2 (ga r) iR2K
theorem iR1K_eq (j : Int) (r : DEnv) : iR1K [.int j] r = need (rngB j) (.ok (rngL 0 j.toNat, r)) := rfl2 rfl
theorem iR2K_eq (i j : Int) (r : DEnv) : iR2K [.int i, .int j] r = need (rngB i && rngB j) (.ok (rngL i (j - i).toNat, r)) := rfl2 rfl
theorem qiR1_eq (ga : FTF) (r : DEnv) : qiR1 ga r = bind2 (ga r) iR1K := rfl2 rfl
theorem qiR2_eq (ga : FTF) (r : DEnv) : qiR2 ga r = bind2 (ga r) iR2K := rfl2 rfl
theorem qi_range1 (hg : Gl X "range") (hm : X.mg "range" = none) (ha : FF PX E X [a] ga) (hs : starEach [a] X.env = [(false, eval a X.env)] := by rfl) : PI X tg (.Call (.Name "range" p) [a] [] pos) (tDI X.K E (ofT PX (qiR1 ga))) := fi_of (di_range1 hg hm ha hs) fun r P p => by
  unfold ofT qiR1 at p
  refine wp2_mono (wp2_bind2 p) fun xs r1 q => ?_
  unfold iR1K at q
  split at q
  · obtain ⟨hh, q⟩ := wp2_need q
    have h := of_decide_eq_true hh
    exact ⟨_, rfl, ⟨by omega, by omega⟩, q⟩
  · exact q.elim
theorem qi_range2 (hg : Gl X "range") (hm : X.mg "range" = none) (ha : FF PX E X [a, b] ga) (hs : starEach [a, b] X.env = [(false, eval a X.env), (false, eval b X.env)] := by rfl) (hs2 : starEach [b] X.env = [(false, eval b X.env)] := by rfl) : PI X tg (.Call (.Name "range" p) [a, b] [] pos) (tDI X.K E (ofT PX (qiR2 ga))) := fi_of (di_range2 hg hm ha hs hs2) fun r P p => by
  unfold ofT qiR2 at p
  refine wp2_mono (wp2_bind2 p) fun xs r1 q => ?_
  unfold iR2K at q
  split at q
  · obtain ⟨hh, q⟩ := wp2_need q
    rw [Bool.and_eq_true] at hh
    have h := of_decide_eq_true hh.1
    have h' := of_decide_eq_true hh.2
    exact ⟨_, _, rfl, ⟨by omega, by omega⟩, ⟨by omega, by omega⟩, q⟩
  · exact q.elim
def iEnK (xs : List PyData) (r : DEnv) : Out (List PyData × DEnv) := match xs with
  | [.list xs] => .ok (enumD xs, r)
  | [.tuple xs] => .ok (enumD xs, r)
  | _ => .bad
def qiEn (ga : FTF) (r : DEnv) : Out (List PyData × DEnv) := bind2 (ga r) iEnK
theorem iEnK_l (xs : List PyData) (r : DEnv) : iEnK [.list xs] r = .ok (enumD xs, r) := rfl2 rfl
theorem iEnK_t (xs : List PyData) (r : DEnv) : iEnK [.tuple xs] r = .ok (enumD xs, r) := rfl2 rfl
theorem qiEn_eq (ga : FTF) (r : DEnv) : qiEn ga r = bind2 (ga r) iEnK := rfl2 rfl
theorem qi_enum {elts : List Expr} {kk : Nat} {tpos : Pos} (hg : Gl X "enumerate") (hm : X.mg "enumerate" = none) (h : FF PX E X [e] ga) (hs : starEach [e] X.env = [(false, eval e X.env)] := by rfl) : PI X (.Tuple elts kk tpos) (.Call (.Name "enumerate" p) [e] [] pos) (tDI X.K E (ofT PX (qiEn ga))) := fi_of (di_enum hg hm h hs) fun r P p => by
  unfold ofT qiEn at p
  refine wp2_mono (wp2_bind2 p) fun xs r1 q => ?_
  unfold iEnK at q
  split at q
  · exact ⟨_, .inl rfl, q⟩
  · exact ⟨_, .inr rfl, q⟩
  · exact q.elim
def lpK (rec : FS) (f : Fl) : Out Fl := match f with
  | .nx r => rec r
  | .ct r => rec r
  | .bk r => .ok (.nx r)
  | .rt s r => .ok (.rt s r)
def forK (g rec : FS) (r : DEnv) : Out Fl := bind (g r) (lpK rec)
def forL (t : FTg) (g : FS) : List PyData → DEnv → Out Fl
  | [], r => .ok (.nx r)
  | x :: xs, r => bind (t x r) (forK g (forL t g xs))
def qsFor (gi : FTF) (t : FTg) (g : FS) (r : DEnv) : Out Fl := bind2 (gi r) (forL t g)
theorem lpK_nx (rec : FS) (r : DEnv) : lpK rec (.nx r) = rec r := rfl2 rfl
theorem lpK_ct (rec : FS) (r : DEnv) : lpK rec (.ct r) = rec r := rfl2 rfl
theorem lpK_bk (rec : FS) (r : DEnv) : lpK rec (.bk r) = .ok (.nx r) := rfl2 rfl
theorem lpK_rt (rec : FS) (s : Sl) (r : DEnv) : lpK rec (.rt s r) = .ok (.rt s r) := rfl2 rfl
theorem forK_eq (g rec : FS) (r : DEnv) : forK g rec r = bind (g r) (lpK rec) := rfl2 rfl
theorem forL_nil (t : FTg) (g : FS) (r : DEnv) : forL t g [] r = .ok (.nx r) := rfl2 rfl
theorem forL_cons (t : FTg) (g : FS) (x : PyData) (xs : List PyData) (r : DEnv) : forL t g (x :: xs) r = bind (t x r) (forK g (forL t g xs)) := rfl2 rfl
theorem qsFor_eq (gi : FTF) (t : FTg) (g : FS) (r : DEnv) : qsFor gi t g r = bind2 (gi r) (forL t g) := rfl2 rfl
theorem forL_d {t : FTg} {P : DEnds} {xs : List PyData} (p : (forL t g xs r).wp PX (Fl.to P)) : ForIn xs r (ofG PX t) (ofS PX g) P := by
  refine ⟨fun pre r' => ∃ post, xs = pre ++ post ∧ (forL t g post r').wp PX (Fl.to P), ⟨xs, rfl, p⟩, ?_, ?_⟩
  · rintro pre x post r' e ⟨post', e', q⟩
    have : post' = x :: post := List.append_cancel_left (e'.symm.trans e)
    subst this
    have q : (bind (t x r') (forK g (forL t g post))).wp PX (Fl.to P) := q
    refine wp_mono (wp_bind q) fun r1 q => ?_
    unfold forK at q
    refine wp_mono (wp_bind q) fun f q => ?_
    cases f with
    | nx r2 => exact ⟨post, by rw [e]; simp, q⟩
    | ct r2 => exact ⟨post, by rw [e]; simp, q⟩
    | bk r2 => exact q
    | rt s r2 => exact q
  · rintro r' ⟨post, e, q⟩
    have : post = [] := by
      have := congrArg List.length e
      rw [List.length_append] at this
      exact List.length_eq_zero_iff.mp (by omega)
    subst this
    exact q
theorem qs_for {it : Expr} {t : FTg} (h : PS X (.For tg it body [] pos) (tFor (tDI X.K E (ofT PX gi)) (tDG X.K E (ofG PX t)) (tDS X.K E (ofS PX g)))) : FSt PX E X (.For tg it body [] pos) (qsFor gi t g) := fs_of (ds_for h) fun P r p => by
  unfold ofS qsFor at p
  exact wp2_mono (wp_bind2 p) fun xs r1 q => forL_d q
def whK (g rec : FS) (c : Bool) (r : DEnv) : Out Fl := match c with
  | true => bind (g r) (lpK rec)
  | false => .ok (.nx r)
def whL (t : FTT) (g : FS) : Nat → DEnv → Out Fl
  | 0, _ => .bad
  | n + 1, r => bind2 (t r) (whK g (whL t g n))
def wFuel : Nat := 10 ^ 250
def qsWhile (t : FTT) (g : FS) (r : DEnv) : Out Fl := whL t g wFuel r
theorem whK_t (g rec : FS) (r : DEnv) : whK g rec true r = bind (g r) (lpK rec) := rfl2 rfl
theorem whK_f (g rec : FS) (r : DEnv) : whK g rec false r = .ok (.nx r) := rfl2 rfl
theorem whL_s (t : FTT) (g : FS) (n : Nat) (r : DEnv) : whL t g (n + 1) r = bind2 (t r) (whK g (whL t g n)) := rfl2 rfl
theorem qsWhile_eq (t : FTT) (g : FS) (r : DEnv) : qsWhile t g r = whL t g wFuel r := rfl2 rfl
theorem qs_while (h : PS X (.While c body [] pos) (tWhile (tDT X.K E (ofT PX ta)) (tDS X.K E (ofS PX g)))) : FSt PX E X (.While c body [] pos) (qsWhile ta g) := fs_of (ds_while h) fun P r p => by
  refine ⟨fun m r' => (whL ta g m r').wp PX (Fl.to P), ⟨wFuel, p⟩, ?_⟩
  intro m r1 q
  cases m with
  | zero => exact q.elim
  | succ m =>
    have q : (bind2 (ta r1) (whK g (whL ta g m))).wp PX (Fl.to P) := q
    refine wp2_mono (wp_bind2 q) fun c r2 q => ?_
    cases c with
    | false => exact q
    | true =>
      rw [if_pos rfl]
      refine wp_mono (wp_bind (show (bind (g r2) (lpK (whL ta g m))).wp PX (Fl.to P) from q)) fun f q => ?_
      cases f with
      | nx r3 => exact ⟨m, Nat.lt_succ_self m, q⟩
      | ct r3 => exact ⟨m, Nat.lt_succ_self m, q⟩
      | bk r3 => exact q
      | rt s r3 => exact q
/-! ### comprehensions -/
def noX {α : Type} (m : Out α) : Out α := match m with
  | .ok a => .ok a
  | _ => .bad
theorem noX_ok {α : Type} (a : α) : noX (.ok a) = .ok a := rfl2 rfl
theorem noX_wp {α : Type} {m : Out α} {Q : α → Prop} {PY : Exn → Prop} (h : (noX m).wp PX Q) : m.wp PY Q := by
  cases m with
  | ok a => exact h
  | exc x => exact h.elim
  | bad => exact h.elim
theorem noX_wp2 {α β : Type} {m : Out (α × β)} {Q : α → β → Prop} {PY : Exn → Prop} (h : (noX m).wp2 PX Q) : m.wp2 PY Q := by
  cases m with
  | ok a => exact h
  | exc x => exact h.elim
  | bad => exact h.elim
abbrev PX0 : Exn → Prop := fun _ => False
def lcE3 (own : List Nat) (s : Vl) (r : DEnv) : Out (Option PyData × DEnv) := match s with
  | .d y => .ok (some y, wipeD r own)
  | _ => .bad
def lcE2 (fe : FT) (own : List Nat) (c : Bool) (r : DEnv) : Out (Option PyData × DEnv) := match c with
  | true => bind2 (noX (qFz fe r)) (lcE3 own)
  | false => .ok (none, wipeD r own)
def lcE1 (tt : FTT) (fe : FT) (own : List Nat) (r : DEnv) : Out (Option PyData × DEnv) := bind2 (noX (tt r)) (lcE2 fe own)
def lcE (t : FTg) (tt : FTT) (fe : FT) (own : List Nat) (x : PyData) (r : DEnv) : Out (Option PyData × DEnv) := bind (noX (t x r)) (lcE1 tt fe own)
def lcK4 (y : PyData) (ys : List PyData) (r : DEnv) : Out (List PyData × DEnv) := .ok (y :: ys, r)
def lcK3 (rec : DEnv → Out (List PyData × DEnv)) (o : Option PyData) (r : DEnv) : Out (List PyData × DEnv) := match o with
  | some y => bind2 (rec r) (lcK4 y)
  | none => rec r
def lcL (t : FTg) (tt : FTT) (fe : FT) (own : List Nat) : List PyData → DEnv → Out (List PyData × DEnv)
  | [], r => .ok ([], r)
  | x :: xs, r => bind2 (lcE t tt fe own x r) (lcK3 (lcL t tt fe own xs))
def lcK2 (r0 : DEnv) (own : List Nat) (ys : List PyData) (r : DEnv) : Out (Vl × DEnv) := .ok (.n (.list ys), backD r0 r own)
def lcK1 (t : FTg) (tt : FTT) (fe : FT) (own : List Nat) (xs : List PyData) (r : DEnv) : Out (Vl × DEnv) := need (lenOk xs.length) (bind2 (lcL t tt fe own xs (wipeD r own)) (lcK2 r own))
def qLc (gi : FTF) (t : FTg) (tt : FTT) (fe : FT) (own : List Nat) (r : DEnv) : Out (Vl × DEnv) := bind2 (gi r) (lcK1 t tt fe own)
def qtYes (r : DEnv) : Out (Bool × DEnv) := .ok (true, r)
theorem lcE3_eq (own : List Nat) (y : PyData) (r : DEnv) : lcE3 own (.d y) r = .ok (some y, wipeD r own) := rfl2 rfl
theorem lcE2_t (fe : FT) (own : List Nat) (r : DEnv) : lcE2 fe own true r = bind2 (noX (qFz fe r)) (lcE3 own) := rfl2 rfl
theorem lcE2_f (fe : FT) (own : List Nat) (r : DEnv) : lcE2 fe own false r = .ok (none, wipeD r own) := rfl2 rfl
theorem lcE1_eq (tt : FTT) (fe : FT) (own : List Nat) (r : DEnv) : lcE1 tt fe own r = bind2 (noX (tt r)) (lcE2 fe own) := rfl2 rfl
theorem lcE_eq (t : FTg) (tt : FTT) (fe : FT) (own : List Nat) (x : PyData) (r : DEnv) : lcE t tt fe own x r = bind (noX (t x r)) (lcE1 tt fe own) := rfl2 rfl
theorem lcK3_s (rec : DEnv → Out (List PyData × DEnv)) (y : PyData) (r : DEnv) : lcK3 rec (some y) r = bind2 (rec r) (lcK4 y) := rfl2 rfl
theorem lcK3_n (rec : DEnv → Out (List PyData × DEnv)) (r : DEnv) : lcK3 rec none r = rec r := rfl2 rfl
theorem lcK4_eq (y : PyData) (ys : List PyData) (r : DEnv) : lcK4 y ys r = .ok (y :: ys, r) := rfl2 rfl
theorem lcL_nil (t : FTg) (tt : FTT) (fe : FT) (own : List Nat) (r : DEnv) : lcL t tt fe own [] r = .ok ([], r) := rfl2 rfl
theorem lcL_cons (t : FTg) (tt : FTT) (fe : FT) (own : List Nat) (x : PyData) (xs : List PyData) (r : DEnv) : lcL t tt fe own (x :: xs) r = bind2 (lcE t tt fe own x r) (lcK3 (lcL t tt fe own xs)) := rfl2 rfl
theorem lcK2_eq (r0 : DEnv) (own : List Nat) (ys : List PyData) (r : DEnv) : lcK2 r0 own ys r = .ok (.n (.list ys), backD r0 r own) := rfl2 rfl
theorem lcK1_eq (t : FTg) (tt : FTT) (fe : FT) (own : List Nat) (xs : List PyData) (r : DEnv) : lcK1 t tt fe own xs r = need (lenOk xs.length) (bind2 (lcL t tt fe own xs (wipeD r own)) (lcK2 r own)) := rfl2 rfl
theorem qLc_eq (gi : FTF) (t : FTg) (tt : FTT) (fe : FT) (own : List Nat) (r : DEnv) : qLc gi t tt fe own r = bind2 (gi r) (lcK1 t tt fe own) := rfl2 rfl
theorem qtYes_eq (r : DEnv) : qtYes r = .ok (true, r) := rfl2 rfl
theorem lcL_d {t : FTg} {tt : FTT} {fe : FT} {own : List Nat} {xs : List PyData} {P : Vl → DEnv → Prop} (p : (lcK1 t tt fe own xs r).wp2 PX P) : LcIn xs r (ofG PX0 t) (ofT PX0 tt) (ofT PX0 fe) own P := by
  unfold lcK1 at p
  obtain ⟨hl, p⟩ := wp2_need p
  have hl := lenOk_iff.mp hl
  refine ⟨fun pre acc r' => acc.length ≤ pre.length ∧ ∃ post, xs = pre ++ post ∧ (lcL t tt fe own post r').wp2 PX fun ys r2 => P (.n (.list (acc ++ ys))) (backD r r2 own), ⟨Nat.le_refl _, xs, rfl, wp2_bind2 p⟩, ?_, ?_⟩
  · rintro pre x post acc r' e ⟨ha, post', e', q⟩
    have : post' = x :: post := List.append_cancel_left (e'.symm.trans e)
    subst this
    have hlen : pre.length < 16777216 := by
      rw [e, List.length_append, List.length_cons] at hl
      omega
    have q : (bind2 (lcE t tt fe own x r') (lcK3 (lcL t tt fe own post))).wp2 PX fun ys r2 => P (.n (.list (acc ++ ys))) (backD r r2 own) := q
    have q := wp2_bind2 q
    unfold lcE at q
    have q := noX_wp (PY := PX0) (wp2_bind q)
    refine wp_mono q fun r1 q => ?_
    unfold lcE1 at q
    have q := noX_wp2 (PY := PX0) (wp2_bind2 q)
    refine wp2_mono q fun c r2 q => ?_
    cases c with
    | false =>
      rw [if_neg Bool.false_ne_true]
      refine ⟨by rw [List.length_append]; exact Nat.le_trans ha (Nat.le_add_right _ _), post, by rw [e]; simp, q⟩
    | true =>
      rw [if_pos rfl]
      unfold lcE2 at q
      have q := noX_wp2 (PY := PX0) (wp2_bind2 q)
      show dFz (ofT PX0 fe) r2 _
      refine qFz_d (PX := PX0) (wp2_mono q fun s r3 q => ?_)
      cases s with
      | d y =>
        refine ⟨y, rfl, Nat.lt_of_le_of_lt ha hlen, by rw [List.length_append, List.length_append]; exact Nat.add_le_add_right ha 1, post, by rw [e]; simp, ?_⟩
        have q : (bind2 (lcL t tt fe own post (wipeD r3 own)) (lcK4 y)).wp2 PX fun ys r2 => P (.n (.list (acc ++ ys))) (backD r r2 own) := q
        refine wp2_mono (wp2_bind2 q) fun ys r4 q => ?_
        rw [List.append_assoc]
        exact q
      | n y => exact q.elim
      | v i => exact q.elim
  · rintro acc r' ⟨_, post, e, q⟩
    have : post = [] := by
      have := congrArg List.length e
      rw [List.length_append] at this
      exact List.length_eq_zero_iff.mp (by omega)
    subst this
    have q : P (.n (.list (acc ++ []))) (backD r r' own) := q
    rw [List.append_nil] at q
    exact q
/-- a comprehension's own names -/
def tOwnK (i : Nat) (x : PyData) (r : DEnv) (o : Option (Option Sl)) : Out DEnv := match o with
  | some (some (.l _)) => .bad
  | some (some (.b _)) => .bad
  | _ => .ok (r.set i (some (.d x)))
def tOwn (i : Nat) (x : PyData) (r : DEnv) : Out DEnv := tOwnK i x r r[i]?
theorem tOwn_eq (i : Nat) (x : PyData) (r : DEnv) : tOwn i x r = tOwnK i x r r[i]? := rfl2 rfl
theorem tOwnK_n (i : Nat) (x : PyData) (r : DEnv) : tOwnK i x r (some none) = .ok (r.set i (some (.d x))) := rfl2 rfl
theorem tOwnK_d (i : Nat) (x y : PyData) (r : DEnv) : tOwnK i x r (some (some (.d y))) = .ok (r.set i (some (.d x))) := rfl2 rfl
theorem fct_of {own : List Nat} {g : TG} {t : FTg} {d : DTG} (h : CT K E own g d) (k : ∀ x r Q, ofG PX t x r Q → d x r Q) : CT K E own g (ofG PX t) := fun v st H Q F r P x R q p kk => h v st H Q F r P x R q (k x r P p) kk
theorem fcts_of {own : List Nat} {g : TGs} {t : FTgs} {d : DTGs} (h : CTs K E own g d) (k : ∀ x r Q, ofGs PX t x r Q → d x r Q) : CTs K E own g (ofGs PX t) := fun v st H Q F r P x R q p kk => h v st H Q F r P x R q (k x r P p) kk
theorem qct_name {own : List Nat} {i : Nat} (hi : i ∈ own) : CT K E own (gName i) (ofG PX (tOwn i)) := fct_of (ct_name hi) fun x r Q p => by
  unfold ofG tOwn tOwnK at p
  unfold hOwn
  split at p
  · exact p.elim
  · exact p.elim
  · rename_i h1 h2
    refine ⟨?_, p⟩
    split
    · rename_i s e
      cases s with
      | d y => rfl
      | l y => exact (h1 y e).elim
      | b y => exact (h2 y e).elim
    · trivial
theorem qcts_nil {own : List Nat} : CTs K E own gNil (ofGs PX tNil) := fcts_of cts_nil fun xs r Q p => by
  cases xs with
  | nil => exact ⟨rfl, p⟩
  | cons x xs => exact p.elim
theorem qcts_cons {own : List Nat} {g : TG} {gs : TGs} {t : FTg} {ts : FTgs} (h1 : CT K E own g (ofG PX t)) (h2 : CTs K E own gs (ofGs PX ts)) : CTs K E own (gCons g gs) (ofGs PX (tCons t ts)) := fcts_of (cts_cons h1 h2) fun xs r Q p => tCons_d p
theorem qct_tup {own : List Nat} {n : Nat} {gs : TGs} {ts : FTgs} (h : CTs K E own gs (ofGs PX ts)) : CT K E own (gTup K n gs) (ofG PX (tTupT n ts)) := fct_of (ct_tup h) fun x r Q p => tTupT_d p
theorem qpts_nil : PTs X [] (tDT X.K E (ofT PX qtYes)) := dpts_nil
theorem qpts_one (h : FTe PX E X c ta) : PTs X [c] (tDT X.K E (ofT PX ta)) := dpts_one h
theorem qe_lc {elt iter : Expr} {ifs : List Expr} {scope : Scope} {own : List (Str × Nat)} {g : TG} {t : FTg} {tt : FTT} {fe : FT} (hc : X.calm = true) (hN : X.N.Nodup) (hi : PI X tg iter (tDI X.K E (ofT PX gi))) (ok : BlkOk X.N X.env.scope scope own)
    (ct : CT X.K E (own.map (·.2)) g (ofG PX0 t)) (hg : ∀ (s : Shared) (H : Hp) (C : Addr) (cl : List (Str × Addr)) (fp : List Addr), PG (X.blk s H scope (compEnvC scope cl C X.env) fp) tg g)
    (ht : ∀ (s : Shared) (H : Hp) (C : Addr) (cl : List (Str × Addr)) (fp : List Addr), PTs (X.blk s H scope (compEnvC scope cl C X.env) fp) ifs (tDT X.K E (ofT PX0 tt)))
    (he : ∀ (s : Shared) (H : Hp) (C : Addr) (cl : List (Str × Addr)) (fp : List Addr), FE PX0 E (X.blk s H scope (compEnvC scope cl C X.env) fp) elt fe) (hs : ∀ x, foldedSetIterable iter X.env x = pure x := by intro _; rfl) :
    FE PX E X (.ListComp elt [⟨tg, iter, ifs, 0⟩] scope pos) (qLc gi t tt fe (own.map (·.2))) := fe_of (de_lc hc hN hi ok ct hg ht he hs) fun r P p => by
  unfold ofT qLc at p
  exact wp2_mono (wp2_bind2 p) fun xs r1 q => lcL_d q
theorem qs_setLc {i : Nat} {y : Str} {py : Pos} {elt iter : Expr} {ifs : List Expr} {scope : Scope} {own : List (Str × Nat)} {spos : Pos} {g : TG} {t : FTg} {tt : FTT} {fe : FT} (hc : X.calm = true) (hN : X.N.Nodup) (hy : X.N[i]? = some y) (hyl : X.env.scope.names.lookup y = some .local)
    (hsw : swapsWith (.ListComp elt [⟨tg, iter, ifs, 0⟩] scope pos) (some (.Name y py)) spos.line X.env = pure true) (hi : PI X tg iter (tDI X.K E (ofT PX gi))) (ok : BlkOk X.N X.env.scope scope own)
    (ct : CT X.K E (own.map (·.2)) g (ofG PX0 t)) (hg : ∀ (s : Shared) (H : Hp) (C : Addr) (cl : List (Str × Addr)) (fp : List Addr), PG (X.blk s H scope (compEnvC scope cl C X.env) fp) tg g)
    (ht : ∀ (s : Shared) (H : Hp) (C : Addr) (cl : List (Str × Addr)) (fp : List Addr), PTs (X.blk s H scope (compEnvC scope cl C X.env) fp) ifs (tDT X.K E (ofT PX0 tt)))
    (he : ∀ (s : Shared) (H : Hp) (C : Addr) (cl : List (Str × Addr)) (fp : List Addr), FE PX0 E (X.blk s H scope (compEnvC scope cl C X.env) fp) elt fe) (hs : ∀ x, foldedSetIterable iter X.env x = pure x := by intro _; rfl) :
    FSt PX E X (.Assign [.Name y py] (.ListComp elt [⟨tg, iter, ifs, 0⟩] scope pos) spos) (qsSet i (qLc gi t tt fe (own.map (·.2)))) := fs_of (ds_setLc hc hN hy hyl hsw hi ok ct hg ht he hs) fun P r p => by
  have p := qsSet_d p
  show dLc _ _ _ _ _ r _
  refine wp2_mono (wp2_bind2 (show (bind2 (gi r) (lcK1 t tt fe (own.map (·.2)))).wp2 PX _ from p)) fun xs r1 q => lcL_d q
/-! ### defs and their calls -/
abbrev Run := List Sl → Out (Sl × Option PyData)
def SF (run : Run) : DSpec := fun as Q PX => (run as).wp2 PX Q
def callK3 (ss : List Vl) (r : DEnv) (s : Sl) (cs : Option PyData) : Out (Vl × DEnv) := .ok (resV s, putB r ss cs)
def callK2 (n : Nat) (run : Run) (ss : List Vl) (r : DEnv) (as : List Sl) : Out (Vl × DEnv) := need (oneB as && natB as.length n) (bind2 (run as) (callK3 ss r))
def callK1 (n : Nat) (run : Run) (ss : List Vl) (r : DEnv) : Out (Vl × DEnv) := opt (argsOf r ss) (callK2 n run ss r)
def qCall (n : Nat) (run : Run) (ha : FTA) (r : DEnv) : Out (Vl × DEnv) := bind2 (ha r) (callK1 n run)
theorem callK3_eq (ss : List Vl) (r : DEnv) (s : Sl) (cs : Option PyData) : callK3 ss r s cs = .ok (resV s, putB r ss cs) := rfl2 rfl
theorem callK2_eq (n : Nat) (run : Run) (ss : List Vl) (r : DEnv) (as : List Sl) : callK2 n run ss r as = need (oneB as && natB as.length n) (bind2 (run as) (callK3 ss r)) := rfl2 rfl
theorem callK1_eq (n : Nat) (run : Run) (ss : List Vl) (r : DEnv) : callK1 n run ss r = opt (argsOf r ss) (callK2 n run ss r) := rfl2 rfl
theorem qCall_eq (n : Nat) (run : Run) (ha : FTA) (r : DEnv) : qCall n run ha r = bind2 (ha r) (callK1 n run) := rfl2 rfl
theorem rok0 {EX : XK} : RaisesOk X.K X.mg E PX0 EX := fun _ _ _ _ _ _ _ _ z _ => z.elim
theorem qe_cal {n k : Nat} {x : Str} {ps : List Str} {run : Run} {EX : XK} (C : Cal X.prog X.w X.K X.mg X.base k x ps (SF run)) (hr : Room k X.A) (hgu : X.A.guards = some []) (hp : Passes (L2.CX X.prog X.w) X EX) (hx : RaisesOk X.K X.mg E PX EX) (hg : Gl X x) (h : FA PX E X (e :: es) ha) (hdb : (x == ("__debug__" : Str)) = false := by decide)
    (he : starEach (e :: es) X.env = (false, eval e X.env) :: starEach es X.env := by rfl) (hpl : (backTo pos (starEach es X.env)).any (·.1) = false := by rfl) (hn : ps.length = n := by rfl) : FE PX E X (.Call (.Name x p) (e :: es) [] pos) (qCall n run ha) := by
  subst hn
  obtain ⟨f, fd, G, m, kp, b⟩ := C
  refine fe_of (de_callD (EX := EX) (PX := PX) (pe_callG G hr hgu hg m kp b.1 .nil hp h hdb he hpl) hx fun _ _ _ q => q.1) fun r P p => ?_
  unfold ofT qCall at p
  refine wp2_mono (wp2_bind2 p) fun ss r1 q => ?_
  unfold callK1 at q
  obtain ⟨as, e1, q⟩ := wp2_opt q
  unfold callK2 at q
  obtain ⟨hh, q⟩ := wp2_need q
  rw [Bool.and_eq_true] at hh
  have h1 := hh.1
  have h2 := natB_iff.mp hh.2
  exact ⟨as, e1, h1, h2, wp2_mono (wp2_bind2 q) fun s cs q => q⟩
end
/-! ### a def's run -/
def endK2 (s : Sl) (cs : Option PyData) : Out (Sl × Option PyData) := .ok (s, cs)
def endK (as : List Sl) (f : Fl) : Out (Sl × Option PyData) := match f with
  | .nx r => opt (exitB as r) (endK2 (.d .none))
  | .rt s r => opt (exitB as r) (endK2 s)
  | _ => .bad
def raiseIf {α : Type} (b : Bool) (m : Out α) : Out α := match m with
  | .exc x => if b = true then .exc x else .bad
  | .ok a => .ok a
  | .bad => .bad
theorem raiseIf_ok {α : Type} (b : Bool) (a : α) : raiseIf b (.ok a) = .ok a := rfl2 rfl
theorem raiseIf_t {α : Type} (m : Out α) : raiseIf true m = m := by cases m <;> rfl
theorem sat_raiseIf {α : Type} {b : Bool} {m : Out α} {Q : α → Prop} (h : m.sat Q) : (raiseIf b m).sat Q := by
  obtain ⟨a, rfl, q⟩ := h
  exact ⟨a, rfl, q⟩
theorem endK_nx (as : List Sl) (r : DEnv) : endK as (.nx r) = opt (exitB as r) (endK2 (.d .none)) := rfl2 rfl
theorem endK_rt (as : List Sl) (s : Sl) (r : DEnv) : endK as (.rt s r) = opt (exitB as r) (endK2 s) := rfl2 rfl
theorem endK2_eq (s : Sl) (cs : Option PyData) : endK2 s cs = .ok (s, cs) := rfl2 rfl
/-! ### small steps -/
theorem exitB_nil (r : DEnv) : exitB [] r = some none := by cases r <;> rfl
theorem exitB_d (x : PyData) (as : List Sl) (o : Option Sl) (r : DEnv) : exitB (.d x :: as) (o :: r) = exitB as r := rfl2 rfl
theorem exitB_b (x y : PyData) (as : List Sl) (r : DEnv) : exitB (.b x :: as) (some (.b y) :: r) = some (some y) := rfl2 rfl
def argV : Option (Option Sl) → Option Sl
  | some (some (.l x)) => some (.b x)
  | some (some (.b x)) => some (.b x)
  | _ => none
theorem argOf_d (r : DEnv) (x : PyData) : argOf r (.d x) = some (.d x) := rfl2 rfl
theorem argOf_v' (r : DEnv) (i : Nat) : argOf r (.v i) = argV r[i]? := rfl2 rfl
theorem argV_l (x : PyData) : argV (some (some (.l x))) = some (.b x) := rfl2 rfl
theorem argV_b (x : PyData) : argV (some (some (.b x))) = some (.b x) := rfl2 rfl
def argsC (a : Option Sl) (b : Option (List Sl)) : Option (List Sl) := match a, b with
  | some a, some b => some (a :: b)
  | _, _ => none
theorem argsOf_nil (r : DEnv) : argsOf r [] = some [] := rfl2 rfl
theorem argsOf_cons (r : DEnv) (s : Vl) (t : List Vl) : argsOf r (s :: t) = argsC (argOf r s) (argsOf r t) := by
  show (match argOf r s, argsOf r t with
    | some a, some b => some (a :: b)
    | _, _ => none) = _
  unfold argsC
  cases argOf r s <;> cases argsOf r t <;> rfl
theorem argsC_eq (a : Sl) (b : List Sl) : argsC (some a) (some b) = some (a :: b) := rfl2 rfl
def setO (r : DEnv) (i : Nat) (y : PyData) : Option (Option Sl) → DEnv
  | some (some (.l _)) => r.set i (some (.l y))
  | some (some (.b _)) => r.set i (some (.b y))
  | _ => r
theorem setC_eq (r : DEnv) (i : Nat) (y : PyData) : setC r i y = setO r i y r[i]? := rfl2 rfl
theorem setO_l (r : DEnv) (i : Nat) (x y : PyData) : setO r i y (some (some (.l x))) = r.set i (some (.l y)) := rfl2 rfl
theorem setO_b (r : DEnv) (i : Nat) (x y : PyData) : setO r i y (some (some (.b x))) = r.set i (some (.b y)) := rfl2 rfl
def putF (r : DEnv) (y : PyData) : Option Nat → DEnv
  | some i => setC r i y
  | none => r
theorem putB_n (r : DEnv) (ss : List Vl) : putB r ss none = r := rfl2 rfl
theorem putB_s (r : DEnv) (ss : List Vl) (y : PyData) : putB r ss (some y) = putF r y (firstV ss) := rfl2 rfl
theorem putF_s (r : DEnv) (y : PyData) (i : Nat) : putF r y (some i) = setC r i y := rfl2 rfl
theorem putF_n (r : DEnv) (y : PyData) : putF r y none = r := rfl2 rfl
theorem firstV_nil : firstV [] = none := rfl2 rfl
theorem firstV_v (i : Nat) (t : List Vl) : firstV (.v i :: t) = some i := rfl2 rfl
theorem firstV_d (x : PyData) (t : List Vl) : firstV (.d x :: t) = firstV t := rfl2 rfl
theorem resV_d (x : PyData) : resV (.d x) = .d x := rfl2 rfl
theorem resV_l (x : PyData) : resV (.l x) = .n x := rfl2 rfl
theorem oneB_nil : oneB [] = true := rfl2 rfl
theorem oneB_b (x : PyData) (t : List Sl) : oneB (.b x :: t) = noB t := rfl2 rfl
theorem oneB_d (x : PyData) (t : List Sl) : oneB (.d x :: t) = oneB t := rfl2 rfl
theorem noB_nil : noB [] = true := rfl2 rfl
theorem noB_b (x : PyData) (t : List Sl) : noB (.b x :: t) = false := rfl2 rfl
theorem noB_d (x : PyData) (t : List Sl) : noB (.d x :: t) = noB t := rfl2 rfl
theorem wipeD_nil (r : DEnv) : wipeD r [] = r := rfl2 rfl
theorem wipeD_cons (r : DEnv) (v : Nat) (vs : List Nat) : wipeD r (v :: vs) = (wipeD r vs).set v none := rfl2 rfl
def keepO : Option (Option Sl) → Option Sl
  | some (some (.d x)) => some (.d x)
  | _ => none
theorem keepD_eq (r : DEnv) (i : Nat) : keepD r i = keepO r[i]? := rfl2 rfl
theorem keepO_d (x : PyData) : keepO (some (some (.d x))) = some (.d x) := rfl2 rfl
theorem keepO_n : keepO (some none) = none := rfl2 rfl
theorem backD_nil (r0 r : DEnv) : backD r0 r [] = r := rfl2 rfl
theorem backD_cons (r0 r : DEnv) (v : Nat) (vs : List Nat) : backD r0 r (v :: vs) = (backD r0 r vs).set v (keepO r0[v]?) := rfl2 rfl
theorem entD_eq (n : Nat) (as : List Sl) : entD n as = as.map some ++ List.replicate (n - as.length) none := rfl2 rfl
theorem ixN_pos {n : Nat} {k : Int} (h0 : 0 ≤ k) (h1 : k < (n : Nat)) : ixN n k = some k.toNat := by
  unfold ixN
  rw [if_pos h0, if_pos (by omega)]
def runF (n : Nat) (g : FS) (as : List Sl) : Out (Sl × Option PyData) := raiseIf (noB as) (bind (g (entD n as)) (endK as))
theorem runF_eq (n : Nat) (g : FS) (as : List Sl) : runF n g as = raiseIf (noB as) (bind (g (entD n as)) (endK as)) := rfl2 rfl
theorem runF_d {n : Nat} {g : FS} {as : List Sl} {Q : Sl → Option PyData → Prop} {PX : Exn → Prop} (h : SF (runF n g) as Q PX) : ofS (fun x => noB as = true ∧ PX x) g (endD as Q) (entD n as) := by
  unfold SF runF at h
  unfold ofS
  generalize g (entD n as) = m at h ⊢
  cases m with
  | bad => exact h.elim
  | exc x =>
    unfold raiseIf at h
    have h : (if noB as = true then Out.exc x else Out.bad : Out (Sl × Option PyData)).wp2 PX Q := h
    split at h
    · exact ⟨by assumption, h⟩
    · exact h.elim
  | ok f =>
    have h : (raiseIf (noB as) (endK as f)).wp2 PX Q := h
    cases f with
    | nx r =>
      have h : (raiseIf (noB as) (opt (exitB as r) (endK2 (.d .none)))).wp2 PX Q := h
      show ∃ cs, exitB as r = some cs ∧ Q (.d .none) cs
      cases e : exitB as r with
      | none => rw [e] at h; exact h.elim
      | some cs => rw [e] at h; exact ⟨cs, rfl, h⟩
    | rt s r =>
      have h : (raiseIf (noB as) (opt (exitB as r) (endK2 s))).wp2 PX Q := h
      show ∃ cs, exitB as r = some cs ∧ Q s cs
      cases e : exitB as r with
      | none => rw [e] at h; exact h.elim
      | some cs => rw [e] at h; exact ⟨cs, rfl, h⟩
    | bk r => exact h.elim
    | ct r => exact h.elim
section
variable {P : Program} {w : World} {K : PySem.W.Frag} {mg : Str → Option Value} {base : Heap}
theorem cal_run {x : Str} {st : Stmt} {N ps : List Str} {k n : Nat} {g : FS} (D : Def0 K mg x st ps) (Sc : FnScope N ps (defScope st)) (hn : N.length = n)
    (body : ∀ (PX : Exn → Prop) (f : Addr) (cdv : Value) (A : Around) (outer : List Env) (s : Shared) (H : Hp) (EX : XK) (E : Ent),
      Room k (A.deeper (envOfC x (defScope st) s.heap.objs.size f cdv)) → A.guards = some [] → RaisesOk K mg E PX EX → Passes (L2.CX P w) (cxOf (L2.CX P w) P w K mg base N x (defScope st) f cdv A outer s H EX) EX →
      FSs PX E (cxOf (L2.CX P w) P w K mg base N x (defScope st) f cdv A outer s H EX) (defBody st) g) :
    Cal P w K mg base (k + 1) x ps (SF (runF n g)) := by
  subst hn
  refine cal_of D Sc fun f cdv A outer s H EX E as Q PX hr hg hS hx => ⟨_, body (fun y => noB as = true ∧ PX y) f cdv A outer s H EX E hr hg ?_ ?_, runF_d hS⟩
  · exact fun F st r H y cls d R ⟨hb, px⟩ ex => hx hb F st r H y cls d R px ex
  · exact passes_call (takes_of rfl rfl rfl rfl) fun _ _ _ _ h => h
theorem fng_run {x : Str} {st : Stmt} {f : Addr} {fd : FuncData} {N ps : List Str} {k n : Nat} {g : FS} (F : Fun K x x st f fd) (Sc : FnScope N ps (defScope st)) (hn : N.length = n) (hl : ps.length = 1)
    (body : ∀ (PX : Exn → Prop) (f : Addr) (cdv : Value) (A : Around) (outer : List Env) (s : Shared) (H : Hp) (EX : XK) (E : Ent),
      Room k (A.deeper (envOfC x (defScope st) s.heap.objs.size f cdv)) → A.guards = some [] → RaisesOk K mg E PX EX → Passes (L2.CX P w) (cxOf (L2.CX P w) P w K mg base N x (defScope st) f cdv A outer s H EX) EX →
      FSs PX E (cxOf (L2.CX P w) P w K mg base N x (defScope st) f cdv A outer s H EX) (defBody st) g)
    (holds : ∀ ns : List Int, ns.length ≤ 63 → runF n g [.d (.list (ns.map .int))] = .ok (.d (.bool true), none)) :
    FnG P w K mg base (k + 1) f fd ps (spD K mg 1 (lenS 1 S_law)) := by
  subst hn
  suffices main : FnG P w K mg base (k + 1) f fd ps (spD K mg ps.length (lenS ps.length S_law)) by
    rw [hl] at main
    exact main
  refine fng_of (S := S_law) F Sc fun f cdv A outer s H EX E as Q PX hr hg hS hx => ⟨_, body (fun y => noB as = true ∧ PX y) f cdv A outer s H EX E hr hg ?_ ?_, runF_d ?_⟩
  · exact fun F st r H y cls d R ⟨hb, px⟩ ex => hx hb F st r H y cls d R px ex
  · exact passes_call (takes_of rfl rfl rfl rfl) fun _ _ _ _ h => h
  · obtain ⟨ns, rfl, h63, q⟩ := hS
    unfold SF
    rw [holds ns h63]
    exact q
end
end DL
set_option Elab.async false
set_option linter.all false
set_option autoImplicit false
set_option maxRecDepth 100000
set_option maxHeartbeats 4000000
/-! FLd: readings as functions, part four: rules for loops. -/
namespace DL
open PySem PySem.Spec PyProof.Rows L2 Out
theorem sat_bind_iff {α β : Type} {m : Out α} {k : α → Out β} {Q : β → Prop} : (Out.bind m k).sat Q ↔ m.sat fun a => (k a).sat Q := by
  cases m with
  | ok a => exact ⟨fun h => ⟨a, rfl, h⟩, fun ⟨b, e, h⟩ => by cases e; exact h⟩
  | exc x => exact ⟨fun ⟨_, e, _⟩ => (nomatch e), fun ⟨_, e, _⟩ => (nomatch e)⟩
  | bad => exact ⟨fun ⟨_, e, _⟩ => (nomatch e), fun ⟨_, e, _⟩ => (nomatch e)⟩
theorem sat_bind2_iff {α β γ : Type} {m : Out (α × β)} {k : α → β → Out γ} {Q : γ → Prop} : (Out.bind2 m k).sat Q ↔ m.sat fun a => (k a.1 a.2).sat Q := by
  cases m with
  | ok a => exact ⟨fun h => ⟨a, rfl, h⟩, fun ⟨b, e, h⟩ => by cases e; exact h⟩
  | exc x => exact ⟨fun ⟨_, e, _⟩ => (nomatch e), fun ⟨_, e, _⟩ => (nomatch e)⟩
  | bad => exact ⟨fun ⟨_, e, _⟩ => (nomatch e), fun ⟨_, e, _⟩ => (nomatch e)⟩
theorem sat_of {α : Type} {m : Out α} {a : α} {Q : α → Prop} (h : m = .ok a) (q : Q a) : m.sat Q := ⟨a, h, q⟩
theorem sat_raise_iff {α : Type} {b : Bool} {m : Out α} {Q : α → Prop} : (raiseIf b m).sat Q ↔ m.sat Q := by
  constructor
  · rintro ⟨a, e, q⟩
    cases m with
    | ok c => cases e; exact ⟨_, rfl, q⟩
    | exc x => unfold raiseIf at e; have e : (if b = true then Out.exc x else Out.bad) = Out.ok a := e; split at e <;> cases e
    | bad => cases e
  · exact sat_raiseIf
theorem sat_noX_iff {α : Type} {m : Out α} {Q : α → Prop} : (noX m).sat Q ↔ m.sat Q := by
  constructor
  · rintro ⟨a, e, q⟩
    cases m with
    | ok c => cases e; exact ⟨_, rfl, q⟩
    | exc x => cases e
    | bad => cases e
  · rintro ⟨a, rfl, q⟩
    exact ⟨a, rfl, q⟩
theorem raiseIf_sat_eq {α : Type} {b : Bool} {m : Out α} {a : α} (h : m.sat fun x => x = a) : raiseIf b m = .ok a := by
  obtain ⟨c, rfl, rfl⟩ := h
  rfl
/-- what follows a loop's body: on with the loop, or out of it -/
def Lp (I : DEnv → Prop) (Q : Fl → Prop) : Fl → Prop
  | .nx r => I r
  | .ct r => I r
  | .bk r => Q (.nx r)
  | .rt s r => Q (.rt s r)
theorem Lp_nx (I : DEnv → Prop) (Q : Fl → Prop) (r : DEnv) : Lp I Q (.nx r) = I r := rfl2 rfl
theorem Lp_ct (I : DEnv → Prop) (Q : Fl → Prop) (r : DEnv) : Lp I Q (.ct r) = I r := rfl2 rfl
theorem Lp_bk (I : DEnv → Prop) (Q : Fl → Prop) (r : DEnv) : Lp I Q (.bk r) = Q (.nx r) := rfl2 rfl
theorem Lp_rt (I : DEnv → Prop) (Q : Fl → Prop) (s : Sl) (r : DEnv) : Lp I Q (.rt s r) = Q (.rt s r) := rfl2 rfl
theorem lp_step {g rec : FS} {r : DEnv} {I : DEnv → Prop} {Q : Fl → Prop} (h : (g r).sat (Lp I Q)) (k : ∀ r, I r → (rec r).sat Q) : (Out.bind (g r) (lpK rec)).sat Q := by
  refine Out.sat_bind h fun f hf => ?_
  cases f with
  | nx r => exact k r hf
  | ct r => exact k r hf
  | bk r => exact ⟨_, rfl, hf⟩
  | rt s r => exact ⟨_, rfl, hf⟩
theorem forL_from {t : FTg} {g : FS} {all : List PyData} (I : Nat → DEnv → Prop) {Q : Fl → Prop}
    (step : ∀ i x r, all[i]? = some x → I i r → (t x r).sat fun r1 => (g r1).sat (Lp (I (i + 1)) Q)) (fin : ∀ r, I all.length r → Q (.nx r)) :
    ∀ (xs : List PyData) (i : Nat) (r : DEnv), all.drop i = xs → i ≤ all.length → I i r → (forL t g xs r).sat Q
  | [], i, r, e, hi, h => by
    have : i = all.length := by
      have := congrArg List.length e
      rw [List.length_drop] at this
      simp at this
      omega
    subst this
    exact ⟨_, rfl, fin r h⟩
  | x :: xs, i, r, e, hi, h => by
    have hl : i < all.length := by
      have := congrArg List.length e
      rw [List.length_drop] at this
      simp at this
      omega
    have hx : all[i]? = some x := by
      have := congrArg List.head? e
      rw [List.head?_drop] at this
      simpa using this
    have hd : all.drop (i + 1) = xs := by
      rw [← List.drop_drop, e]
      rfl
    rw [forL_cons]
    refine Out.sat_bind (step i x r hx h) fun r1 h1 => ?_
    exact lp_step h1 fun r2 h2 => forL_from I step fin xs (i + 1) r2 hd hl h2
/-- a loop, by the number of its laps -/
theorem forL_ix {t : FTg} {g : FS} {xs : List PyData} {r : DEnv} {Q : Fl → Prop} (I : Nat → DEnv → Prop) (h0 : I 0 r)
    (step : ∀ i x r, xs[i]? = some x → I i r → (t x r).sat fun r1 => (g r1).sat (Lp (I (i + 1)) Q)) (fin : ∀ r, I xs.length r → Q (.nx r)) : (forL t g xs r).sat Q :=
  forL_from I step fin xs 0 r rfl (Nat.zero_le _) h0
theorem forL_rng {t : FTg} {g : FS} {n : Nat} {r : DEnv} {Q : Fl → Prop} (I : Nat → DEnv → Prop) (h0 : I 0 r)
    (step : ∀ (i : Nat) r, i < n → I i r → (t (.int (i : Nat)) r).sat fun r1 => (g r1).sat (Lp (I (i + 1)) Q)) (fin : ∀ r, I n r → Q (.nx r)) : (forL t g (rngL 0 n) r).sat Q := by
  refine forL_ix I h0 (fun i x r e h => ?_) fun r h => fin r (by rw [rng_len] at h; exact h)
  obtain ⟨hi, rfl⟩ := rng_at e
  rw [Int.zero_add]
  exact step i r hi h
theorem forL_map {α : Type} {f : α → PyData} {t : FTg} {g : FS} {xs : List α} {r : DEnv} {Q : Fl → Prop} (I : Nat → DEnv → Prop) (h0 : I 0 r)
    (step : ∀ i x r, xs[i]? = some x → I i r → (t (f x) r).sat fun r1 => (g r1).sat (Lp (I (i + 1)) Q)) (fin : ∀ r, I xs.length r → Q (.nx r)) : (forL t g (xs.map f) r).sat Q := by
  refine forL_ix I h0 (fun i x r e h => ?_) fun r h => fin r (by rw [List.length_map] at h; exact h)
  rw [List.getElem?_map] at e
  obtain ⟨y, ey, rfl⟩ := Option.map_eq_some_iff.mp e
  exact step i y r ey h
theorem forL_enum {t : FTg} {g : FS} {xs : List PyData} {r : DEnv} {Q : Fl → Prop} (I : Nat → DEnv → Prop) (h0 : I 0 r)
    (step : ∀ i x r, xs[i]? = some x → i < xs.length → I i r → (t (.tuple [.int (i : Nat), x]) r).sat fun r1 => (g r1).sat (Lp (I (i + 1)) Q)) (fin : ∀ r, I xs.length r → Q (.nx r)) : (forL t g (enumD xs) r).sat Q := by
  refine forL_ix I h0 (fun i x r e h => ?_) fun r h => fin r (by rw [enumD_len] at h; exact h)
  obtain ⟨y, ey, hi, rfl⟩ := enum_at e
  exact step i y r ey hi h
/-- a loop whose laps keep what holds -/
theorem forL_any {t : FTg} {g : FS} {xs : List PyData} {r : DEnv} {Q : Fl → Prop} (J : DEnv → Prop) (h0 : J r)
    (step : ∀ x r, x ∈ xs → J r → (t x r).sat fun r1 => (g r1).sat (Lp J Q)) (fin : ∀ r, J r → Q (.nx r)) : (forL t g xs r).sat Q :=
  forL_ix (fun _ => J) h0 (fun i x r e h => step x r (List.mem_of_getElem? e) h) fin
/-- by what is done and what is left -/
theorem forL_split {t : FTg} {g : FS} {Q : Fl → Prop} (I : List PyData → DEnv → Prop)
    (step : ∀ x post r, I (x :: post) r → (t x r).sat fun r1 => (g r1).sat (Lp (I post) Q)) (fin : ∀ r, I [] r → Q (.nx r)) : ∀ (xs : List PyData) (r : DEnv), I xs r → (forL t g xs r).sat Q
  | [], r, h => ⟨_, rfl, fin r h⟩
  | x :: xs, r, h => by
    rw [forL_cons]
    exact Out.sat_bind (step x xs r h) fun r1 h1 => lp_step h1 fun r2 h2 => forL_split I step fin xs r2 h2
theorem whL_from {t : FTT} {g : FS} {Q : Fl → Prop} (I : Nat → DEnv → Prop)
    (step : ∀ m r, I m r → (t r).sat fun p => match p.1 with
      | true => (g p.2).sat (Lp (fun r' => ∃ m', m' < m ∧ I m' r') Q)
      | false => Q (.nx p.2)) : ∀ (n m : Nat) (r : DEnv), m < n → I m r → (whL t g n r).sat Q
  | 0, m, r, h, _ => absurd h (Nat.not_lt_zero _)
  | n + 1, m, r, h, i => by
    rw [whL_s]
    refine Out.sat_bind2 (step m r i) fun c r1 h1 => ?_
    cases c with
    | false => exact ⟨_, rfl, h1⟩
    | true => exact lp_step h1 fun r2 ⟨m', hm, h2⟩ => whL_from I step n m' r2 (by omega) h2
theorem while_by {t : FTT} {g : FS} {Q : Fl → Prop} {r : DEnv} (I : Nat → DEnv → Prop) (m : Nat) (hm : m < 10 ^ 250) (h0 : I m r)
    (step : ∀ m r, I m r → (t r).sat fun p => match p.1 with
      | true => (g p.2).sat (Lp (fun r' => ∃ m', m' < m ∧ I m' r') Q)
      | false => Q (.nx p.2)) : (whL t g wFuel r).sat Q := whL_from I step _ m r hm h0
/-- comprehensions whose laps change no name -/
theorem lcL_fm {t : FTg} {tt : FTT} {fe : FT} {own : List Nat} {r : DEnv} (f : PyData → Option PyData) : ∀ {xs : List PyData}, (∀ x ∈ xs, lcE t tt fe own x r = .ok (f x, r)) → lcL t tt fe own xs r = .ok (xs.filterMap f, r)
  | [], _ => rfl
  | x :: xs, h => by
    rw [lcL_cons, h x List.mem_cons_self, Out.bind2_ok]
    have ih := lcL_fm f (xs := xs) fun y hy => h y (List.mem_cons_of_mem _ hy)
    cases e : f x with
    | none => rw [lcK3_n, ih, List.filterMap_cons_none e]
    | some y => rw [lcK3_s, ih, Out.bind2_ok, lcK4_eq, List.filterMap_cons_some e]
theorem lcL_map {t : FTg} {tt : FTT} {fe : FT} {own : List Nat} {r : DEnv} {xs : List PyData} (f : PyData → PyData) (h : ∀ x ∈ xs, lcE t tt fe own x r = .ok (some (f x), r)) : lcL t tt fe own xs r = .ok (xs.map f, r) := by
  rw [lcL_fm (fun x => some (f x)) h]
  simp
theorem lcL_mapT {α : Type} {t : FTg} {tt : FTT} {fe : FT} {own : List Nat} {r : DEnv} {e : α → PyData} (f : α → PyData) {xs : List α} (h : ∀ x ∈ xs, lcE t tt fe own (e x) r = .ok (some (f x), r)) : lcL t tt fe own (xs.map e) r = .ok (xs.map f, r) := by
  induction xs with
  | nil => rfl
  | cons x xs ih =>
    rw [List.map_cons, lcL_cons, h x List.mem_cons_self, Out.bind2_ok, lcK3_s, ih fun y hy => h y (List.mem_cons_of_mem _ hy), Out.bind2_ok, lcK4_eq]
    rfl
theorem lcL_fmT {α : Type} {t : FTg} {tt : FTT} {fe : FT} {own : List Nat} {r : DEnv} {e : α → PyData} (f : α → Option PyData) {xs : List α} (h : ∀ x ∈ xs, lcE t tt fe own (e x) r = .ok (f x, r)) : lcL t tt fe own (xs.map e) r = .ok (xs.filterMap f, r) := by
  induction xs with
  | nil => rfl
  | cons x xs ih =>
    rw [List.map_cons, lcL_cons, h x List.mem_cons_self, Out.bind2_ok]
    cases q : f x with
    | none => rw [lcK3_n, ih fun y hy => h y (List.mem_cons_of_mem _ hy), List.filterMap_cons_none q]
    | some y => rw [lcK3_s, ih fun y hy => h y (List.mem_cons_of_mem _ hy), Out.bind2_ok, lcK4_eq, List.filterMap_cons_some q]
theorem lcL_rng {t : FTg} {tt : FTT} {fe : FT} {own : List Nat} {r : DEnv} {n : Nat} (f : Nat → PyData) (h : ∀ i : Nat, i < n → lcE t tt fe own (.int (i : Nat)) r = .ok (some (f i), r)) : lcL t tt fe own (rngL 0 n) r = .ok ((List.range n).map f, r) := by
  rw [rngL_eq]
  exact lcL_mapT f fun i hi => h i (List.mem_range.mp hi)
theorem lcL_rngF {t : FTg} {tt : FTT} {fe : FT} {own : List Nat} {r : DEnv} {n : Nat} (f : Nat → Option PyData) (h : ∀ i : Nat, i < n → lcE t tt fe own (.int (i : Nat)) r = .ok (f i, r)) : lcL t tt fe own (rngL 0 n) r = .ok ((List.range n).filterMap f, r) := by
  rw [rngL_eq]
  exact lcL_fmT f fun i hi => h i (List.mem_range.mp hi)
theorem lcL_filtT {α : Type} {t : FTg} {tt : FTT} {fe : FT} {own : List Nat} {r : DEnv} {e : α → PyData} (c : α → Bool) (f : α → PyData) {xs : List α} (h : ∀ x ∈ xs, lcE t tt fe own (e x) r = .ok (if c x = true then some (f x) else none, r)) : lcL t tt fe own (xs.map e) r = .ok ((xs.filter c).map f, r) := by
  rw [lcL_fmT (fun x => if c x = true then some (f x) else none) h]
  congr 1
  congr 1
  clear h
  induction xs with
  | nil => rfl
  | cons x xs ih =>
    by_cases hc : c x = true
    · rw [List.filterMap_cons_some (b := f x) (by rw [if_pos hc]), List.filter_cons, if_pos hc, List.map_cons, ih]
    · rw [List.filterMap_cons_none (by rw [if_neg hc]), List.filter_cons, if_neg hc, ih]
theorem lcL_filtR {t : FTg} {tt : FTT} {fe : FT} {own : List Nat} {r : DEnv} {n : Nat} (c : Nat → Bool) (f : Nat → PyData) (h : ∀ i : Nat, i < n → lcE t tt fe own (.int (i : Nat)) r = .ok (if c i = true then some (f i) else none, r)) : lcL t tt fe own (rngL 0 n) r = .ok (((List.range n).filter c).map f, r) := by
  rw [rngL_eq]
  exact lcL_filtT c f fun i hi => h i (List.mem_range.mp hi)
/-- comprehensions that change names (a pen) -/
theorem lcL_from {t : FTg} {tt : FTT} {fe : FT} {own : List Nat} {all : List PyData} (I : Nat → List PyData → DEnv → Prop)
    (step : ∀ i x acc r, all[i]? = some x → I i acc r → (lcE t tt fe own x r).sat fun p => I (i + 1) (acc ++ p.1.toList) p.2) : ∀ (xs : List PyData) (i : Nat) (acc : List PyData) (r : DEnv), all.drop i = xs → i ≤ all.length → I i acc r →
    (lcL t tt fe own xs r).sat fun p => I all.length (acc ++ p.1) p.2
  | [], i, acc, r, e, hi, h => by
    have : i = all.length := by
      have := congrArg List.length e
      rw [List.length_drop] at this
      simp at this
      omega
    subst this
    exact ⟨_, rfl, by show I all.length (acc ++ []) r; rw [List.append_nil]; exact h⟩
  | x :: xs, i, acc, r, e, hi, h => by
    have hl : i < all.length := by
      have := congrArg List.length e
      rw [List.length_drop] at this
      simp at this
      omega
    have hx : all[i]? = some x := by
      have := congrArg List.head? e
      rw [List.head?_drop] at this
      simpa using this
    have hd : all.drop (i + 1) = xs := by
      rw [← List.drop_drop, e]
      rfl
    rw [lcL_cons]
    refine Out.sat_bind2 (step i x acc r hx h) fun o r1 h1 => ?_
    cases o with
    | none =>
      rw [lcK3_n]
      have h1 : I (i + 1) acc r1 := by simpa using h1
      exact lcL_from I step xs (i + 1) acc r1 hd hl h1
    | some y =>
      rw [lcK3_s]
      refine Out.sat_bind2 (lcL_from I step xs (i + 1) (acc ++ [y]) r1 hd hl h1) fun ys r2 h2 => ⟨_, rfl, ?_⟩
      have h2 : I all.length (acc ++ [y] ++ ys) r2 := h2
      rw [List.append_assoc] at h2
      exact h2
theorem lcL_sat {t : FTg} {tt : FTT} {fe : FT} {own : List Nat} {xs : List PyData} {r : DEnv} (I : Nat → List PyData → DEnv → Prop) (h0 : I 0 [] r)
    (step : ∀ i x acc r, xs[i]? = some x → I i acc r → (lcE t tt fe own x r).sat fun p => I (i + 1) (acc ++ p.1.toList) p.2) : (lcL t tt fe own xs r).sat fun p => I xs.length p.1 p.2 :=
  Out.sat_mono (lcL_from I step xs 0 [] r rfl (Nat.zero_le _) h0) fun p h => by simpa using h
theorem forL_splitM {α : Type} {f : α → PyData} {t : FTg} {g : FS} {Q : Fl → Prop} (I : List α → DEnv → Prop)
    (step : ∀ x post r, I (x :: post) r → (t (f x) r).sat fun r1 => (g r1).sat (Lp (I post) Q)) (fin : ∀ r, I [] r → Q (.nx r)) : ∀ (xs : List α) (r : DEnv), I xs r → (forL t g (xs.map f) r).sat Q
  | [], r, h => ⟨_, rfl, fin r h⟩
  | x :: xs, r, h => by
    rw [List.map_cons, forL_cons]
    exact Out.sat_bind (step x xs r h) fun r1 h1 => lp_step h1 fun r2 h2 => forL_splitM I step fin xs r2 h2
theorem all_tt {α : Type} (xs : List α) : (xs.map fun _ => true).all id = true := by simp
/-! ### data that may be shown -/
structure OkN (n d : Nat) (x : PyData) : Prop where
  i : ib 700 x = true
  d : x.depth ≤ d
  n : nodes x ≤ n
structure OkNs (n d : Nat) (xs : List PyData) : Prop where
  i : ibs 700 xs = true
  d : PyData.depthAll xs ≤ d
  n : nodess xs ≤ n
theorem okN_int {i : Int} (h1 : -(10 ^ 200) < i) (h2 : i < 10 ^ 200) : OkN 1 0 (.int i) := by
  refine ⟨?_, Nat.le_of_eq (dp_int i), Nat.le_refl _⟩
  have : i.natAbs.log2 < 700 := by
    have : i.natAbs < 2 ^ 700 := Nat.lt_of_lt_of_le (show i.natAbs < 10 ^ 200 by omega) (by decide +kernel)
    by_cases z : i.natAbs = 0
    · rw [z]; decide
    · exact (Nat.log2_lt z).mpr this
  unfold ib
  exact decide_eq_true this
theorem okN_bool (b : Bool) : OkN 1 0 (.bool b) := ⟨rfl, Nat.le_of_eq (dp_bool b), Nat.le_refl _⟩
theorem okN_none : OkN 1 0 .none := ⟨rfl, Nat.le_of_eq dp_none, Nat.le_refl _⟩
theorem okNs_nil : OkNs 0 0 [] := ⟨rfl, Nat.le_of_eq dp_nil, Nat.le_refl _⟩
theorem okNs_cons {n d m e : Nat} {x : PyData} {xs : List PyData} (h : OkN n d x) (t : OkNs m e xs) : OkNs (n + m) (max d e) (x :: xs) :=
  ⟨by rw [ibs_cons, h.i, t.i]; rfl, by rw [dp_cons]; exact Nat.max_le.mpr ⟨Nat.le_trans h.d (Nat.le_max_left _ _), Nat.le_trans t.d (Nat.le_max_right _ _)⟩, by rw [nodes_cons]; exact Nat.add_le_add h.n t.n⟩
theorem okN_tup {n d : Nat} {xs : List PyData} (h : OkNs n d xs) : OkN (n + 1) (d + 1) (.tuple xs) := ⟨by rw [ib_tup]; exact h.i, by rw [dp_tup]; exact Nat.add_le_add_right h.d 1, by rw [nodes_tup]; exact Nat.add_le_add_right h.n 1⟩
theorem okN_list {n d : Nat} {xs : List PyData} (h : OkNs n d xs) : OkN (n + 1) (d + 1) (.list xs) := ⟨by rw [ib_list]; exact h.i, by rw [dp_list]; exact Nat.add_le_add_right h.d 1, by rw [nodes_list]; exact Nat.add_le_add_right h.n 1⟩
theorem OkN.mono {n d m e : Nat} {x : PyData} (h : OkN n d x) (h1 : n ≤ m) (h2 : d ≤ e) : OkN m e x := ⟨h.i, Nat.le_trans h.d h2, Nat.le_trans h.n h1⟩
theorem OkNs.mono {n d m e : Nat} {x : List PyData} (h : OkNs n d x) (h1 : n ≤ m) (h2 : d ≤ e) : OkNs m e x := ⟨h.i, Nat.le_trans h.d h2, Nat.le_trans h.n h1⟩
theorem okNs_map {α : Type} {n d : Nat} (L : Nat) {f : α → PyData} {xs : List α} (h : ∀ x ∈ xs, OkN n d (f x)) (hl : xs.length ≤ L) : OkNs (L * n) d (xs.map f) :=
  ⟨ibs_map 700 f fun x hx => (h x hx).i, depths_map d f fun x hx => (h x hx).d, Nat.le_trans (nodess_map n f fun x hx => (h x hx).n) (Nat.mul_le_mul_right n hl)⟩
theorem okNs_all {n d : Nat} (L : Nat) {xs : List PyData} (h : ∀ x ∈ xs, OkN n d x) (hl : xs.length ≤ L) : OkNs (L * n) d xs := by
  have := okNs_map L (f := id) (xs := xs) h hl
  rwa [List.map_id] at this
theorem OkN.okR {n d : Nat} {x : PyData} (h : OkN n d x) (h1 : n * 706 ≤ 16777216) (h2 : d ≤ 64) : okR x = true := by
  unfold DL.okR
  rw [h.i, decide_eq_true (Nat.le_trans h.d h2), decide_eq_true (Nat.le_trans (Nat.mul_le_mul_right 706 h.n) h1)]
  rfl
theorem OkN.okE {n d : Nat} {x : PyData} (h : OkN n d x) (h2 : d ≤ 64) : okE x = true := by
  unfold DL.okE
  rw [ib_nd 700 x h.i, shaped_of 700 h.i (Nat.le_trans h.d h2)]
  rfl
end DL
set_option Elab.async false
set_option linter.all false
set_option autoImplicit false
set_option maxRecDepth 100000
set_option maxHeartbeats 4000000
/-! FLe: int, abs, in, zip, x[i] op= e, is None. -/
namespace DL
open PySem PySem.Spec PyProof.Rows L2 Out
section
variable {PX : Exn → Prop} {X : Cx} {E : Ent} {e a b c tg vl : Expr} {es : List Expr} {pos p p2 : Pos} {fa fb fc : FT} {ta tb : FTT} {ga gi : FTF} {ha : FTA} {K : PySem.W.Frag} {F H : Hp} {st : St} {r : DEnv}
/-! ### int, abs -/
def bInt : List PyData → PyData → Prop := fun as z => (∃ i, as = [.int i] ∧ z = .int i) ∨ ∃ b : Bool, as = [.bool b] ∧ z = .int (if b then 1 else 0)
def biInt : Bi
  | [.int i] => some (.d (.int i))
  | [.bool b] => some (.d (.int (if b then 1 else 0)))
  | _ => none
theorem biInt_i (i : Int) : biInt [.int i] = some (.d (.int i)) := rfl2 rfl
theorem biInt_b (b : Bool) : biInt [.bool b] = some (.d (.int (if b then 1 else 0))) := rfl2 rfl
theorem qe_int1 (hg : Gl X "int") (hm : X.mg "int" = none) (h : FA PX E X [e] ha) (he : starEach [e] X.env = (false, eval e X.env) :: starEach [] X.env := by rfl) (hpl : (backTo pos (starEach [] X.env)).any (·.1) = false := by rfl) :
    FE PX E X (.Call (.Name "int" p) [e] [] pos) (qB biInt ha) := by
  refine qe_bi (B := bInt) (de_call (pe_callTy call_int1 hg hm (by decide +kernel) h (by decide) (by decide) he hpl) ?_) fun xs w h => ?_
  · intro F H vs xs z Q g rv hb hy
    rcases hb with ⟨i, rfl, rfl⟩ | ⟨b, rfl, rfl⟩
    · cases rv with
      | cons rx t =>
        cases t
        exact .inl ⟨i, by rw [rx.int], hy.1 _ (.int _)⟩
    · cases rv with
      | cons rx t =>
        cases t
        exact .inr ⟨b, by rw [rx.bl], hy.1 _ (.int _)⟩
  · unfold biInt at h
    split at h
    · cases h; exact ⟨_, rfl, .inl ⟨_, rfl, rfl⟩⟩
    · cases h; exact ⟨_, rfl, .inr ⟨_, rfl, rfl⟩⟩
    · cases h
def bAbs : List PyData → PyData → Prop := fun as z => ∃ i : Int, as = [.int i] ∧ z = .int (if i < 0 then -i else i)
def biAbs : Bi
  | [.int i] => some (.d (.int (if i < 0 then -i else i)))
  | _ => none
theorem biAbs_eq (i : Int) : biAbs [.int i] = some (.d (.int (if i < 0 then -i else i))) := rfl2 rfl
theorem qe_abs (hg : Gl X "abs") (hm : X.mg "abs" = none) (h : FA PX E X [e] ha) (he : starEach [e] X.env = (false, eval e X.env) :: starEach [] X.env := by rfl) (hpl : (backTo pos (starEach [] X.env)).any (·.1) = false := by rfl) :
    FE PX E X (.Call (.Name "abs" p) [e] [] pos) (qB biAbs ha) := by
  refine qe_bi (B := bAbs) (de_call (pe_callB call_abs hg hm (by decide +kernel) h (by decide) (by decide) he hpl) ?_) fun xs w h => ?_
  · rintro F H vs xs z Q g rv ⟨i, rfl, rfl⟩ hy
    cases rv with
    | cons rx t =>
      cases t
      exact ⟨i, by rw [rx.int], hy.1 _ (.int _)⟩
  · unfold biAbs at h
    split at h
    · cases h; exact ⟨_, rfl, _, rfl, rfl⟩
    · cases h
/-! ### in, not in -/
def rInT (K : PySem.W.Frag) (f : Bool → Bool) : R2 := fun x y H Q => ∃ d ds, Dp K H x d ∧ Dp K H y (.tuple ds) ∧ SeqAt.shaped d = true ∧ SeqAt.shaped (.tuple ds) = true ∧ Q (.bl (f (ds.any fun z => PyData.eqv z d))) H
theorem op_inT (hu : X.A.units + 66 < cLine) : OpR X (compareOp .In) (rInT X.K fun b => b) := by
  intro pins s σ H x y v u Q I rx ry h
  obtain ⟨d, ds, hd, he, sd, se, q⟩ := h
  obtain ⟨as, r1⟩ := Dp.reads I d x v hd rx
  obtain ⟨bs, r2⟩ := Dp.reads I (.tuple ds) y u he ry
  exact SeqAt.in_tuple_reads r2 r1 (SeqAt.canLay_of_shaped se) (SeqAt.canLay_of_shaped sd) (room_in_shaped sd (by omega)) ⟨.bl _, H, I, rfl, q⟩
theorem op_ninT (hu : X.A.units + 66 < cLine) : OpR X (compareOp .NotIn) (rInT X.K fun b => !b) := by
  intro pins s σ H x y v u Q I rx ry h
  obtain ⟨d, ds, hd, he, sd, se, q⟩ := h
  obtain ⟨as, r1⟩ := Dp.reads I d x v hd rx
  obtain ⟨bs, r2⟩ := Dp.reads I (.tuple ds) y u he ry
  exact SeqAt.notIn_tuple_reads r2 r1 (SeqAt.canLay_of_shaped se) (SeqAt.canLay_of_shaped sd) (room_in_shaped sd (by omega)) ⟨.bl _, H, I, rfl, q⟩
def bInU (f : Bool → Bool) (x y z : PyData) : Prop := ∃ ds, (y = .list ds ∨ y = .tuple ds) ∧ okE x = true ∧ okE y = true ∧ z = .bool (f (ds.any fun e => PyData.eqv e x))
abbrev rInU (K : PySem.W.Frag) : R2 := fun x y H Q => rInD K x y H Q ∨ rInT K (fun b => b) x y H Q
abbrev rNinU (K : PySem.W.Frag) : R2 := fun x y H Q => rNotInD K x y H Q ∨ rInT K (fun b => !b) x y H Q
theorem op_inU (hu : X.A.units + 66 < cLine) : OpR X (compareOp .In) (rInU X.K) := opR_or (op_inD (by omega)) (op_inT hu)
theorem op_ninU (hu : X.A.units + 66 < cLine) : OpR X (compareOp .NotIn) (rNinU X.K) := opR_or (op_notInD (by omega)) (op_ninT hu)
theorem opB_inU : OpB K (rInU K) (bInU fun b => b) := by
  rintro F H v w x y z Q g h1 h2 ⟨ds, e, k1, k2, rfl⟩ hy
  obtain ⟨n1, s1⟩ := okE_iff.mp k1
  obtain ⟨n2, s2⟩ := okE_iff.mp k2
  rcases e with rfl | rfl
  · exact .inl ⟨x, ds, h1.dp g n1, h2.dp g n2, s1, s2, hy.1 _ (.bl _)⟩
  · exact .inr ⟨x, ds, h1.dp g n1, h2.dp g n2, s1, s2, hy.1 _ (.bl _)⟩
theorem opB_ninU : OpB K (rNinU K) (bInU fun b => !b) := by
  rintro F H v w x y z Q g h1 h2 ⟨ds, e, k1, k2, rfl⟩ hy
  obtain ⟨n1, s1⟩ := okE_iff.mp k1
  obtain ⟨n2, s2⟩ := okE_iff.mp k2
  rcases e with rfl | rfl
  · exact .inl ⟨x, ds, h1.dp g n1, h2.dp g n2, s1, s2, hy.1 _ (.bl _)⟩
  · exact .inr ⟨x, ds, h1.dp g n1, h2.dp g n2, s1, s2, hy.1 _ (.bl _)⟩
def inB (x : PyData) (ds : List PyData) : Bool := ds.any fun e => PyData.eqv e x
def opIn (x y : PyData) : Option Vl := match y with
  | .list ds => onee (okE x && okE (.list ds)) (some (.d (.bool (inB x ds))))
  | .tuple ds => onee (okE x && okE (.tuple ds)) (some (.d (.bool (inB x ds))))
  | _ => none
def opNin (x y : PyData) : Option Vl := match y with
  | .list ds => onee (okE x && okE (.list ds)) (some (.d (.bool (!inB x ds))))
  | .tuple ds => onee (okE x && okE (.tuple ds)) (some (.d (.bool (!inB x ds))))
  | _ => none
theorem opIn_l (x : PyData) (ds : List PyData) : opIn x (.list ds) = onee (okE x && okE (.list ds)) (some (.d (.bool (inB x ds)))) := rfl2 rfl
theorem opIn_t (x : PyData) (ds : List PyData) : opIn x (.tuple ds) = onee (okE x && okE (.tuple ds)) (some (.d (.bool (inB x ds)))) := rfl2 rfl
theorem opNin_l (x : PyData) (ds : List PyData) : opNin x (.list ds) = onee (okE x && okE (.list ds)) (some (.d (.bool (!inB x ds)))) := rfl2 rfl
theorem opNin_t (x : PyData) (ds : List PyData) : opNin x (.tuple ds) = onee (okE x && okE (.tuple ds)) (some (.d (.bool (!inB x ds)))) := rfl2 rfl
theorem opIn_ok : ∀ x y w, opIn x y = some w → ∃ z, w = .d z ∧ bInU (fun b => b) x y z := fun x y w h => by
  unfold opIn at h
  split at h
  · obtain ⟨hh, h2⟩ := onee_some h
    rw [Bool.and_eq_true] at hh
    cases h2
    exact ⟨_, rfl, _, .inl rfl, hh.1, hh.2, rfl⟩
  · obtain ⟨hh, h2⟩ := onee_some h
    rw [Bool.and_eq_true] at hh
    cases h2
    exact ⟨_, rfl, _, .inr rfl, hh.1, hh.2, rfl⟩
  · cases h
theorem opNin_ok : ∀ x y w, opNin x y = some w → ∃ z, w = .d z ∧ bInU (fun b => !b) x y z := fun x y w h => by
  unfold opNin at h
  split at h
  · obtain ⟨hh, h2⟩ := onee_some h
    rw [Bool.and_eq_true] at hh
    cases h2
    exact ⟨_, rfl, _, .inl rfl, hh.1, hh.2, rfl⟩
  · obtain ⟨hh, h2⟩ := onee_some h
    rw [Bool.and_eq_true] at hh
    cases h2
    exact ⟨_, rfl, _, .inr rfl, hh.1, hh.2, rfl⟩
  · cases h
/-! ### zip -/
theorem walk_zipB {k l : Bool} {a b : Addr} {xs ys : List V} : Walk (ItzB K k l a b) (min xs.length ys.length) (fun H => SqB K k H a xs ∧ SqB K l H b ys) (YPair (fun i => xs[i]?) (fun i => ys[i]?)) where
  goes i _ h q := by
    have h1 : i < xs.length := by omega
    have h2 : i < ys.length := by omega
    exact ⟨xs, ys, xs[i], ys[i], q.1, q.2, by simp [h1], by simp [h2]⟩
  stops _ q := ⟨xs, ys, q.1, q.2, rfl⟩
  yields i H v G _ q y := by
    obtain ⟨T, x, z, h1, h2, h3, h4, h5⟩ := y
    exact ⟨T, x, z, h1, h2, h3, h4 xs q.1, h5 ys q.2⟩
def zipD (xs ys : List PyData) : List PyData := List.zipWith (fun x y => .tuple [x, y]) xs ys
theorem zipD_len (xs ys : List PyData) : (zipD xs ys).length = min xs.length ys.length := List.length_zipWith
theorem zipD_at {xs ys : List PyData} {i : Nat} {x y : PyData} (h1 : xs[i]? = some x) (h2 : ys[i]? = some y) : (zipD xs ys)[i]? = some (.tuple [x, y]) := by
  unfold zipD
  rw [List.getElem?_zipWith, h1, h2]
def iZpK (xs : List PyData) (r : DEnv) : Out (List PyData × DEnv) := match xs with
  | [.list xs, .list ys] => .ok (zipD xs ys, r)
  | [.tuple xs, .tuple ys] => .ok (zipD xs ys, r)
  | [.tuple xs, .list ys] => .ok (zipD xs ys, r)
  | [.list xs, .tuple ys] => .ok (zipD xs ys, r)
  | _ => .bad
def qiZip (ga : FTF) (r : DEnv) : Out (List PyData × DEnv) := bind2 (ga r) iZpK
theorem iZpK_l (xs ys : List PyData) (r : DEnv) : iZpK [.list xs, .list ys] r = .ok (zipD xs ys, r) := rfl2 rfl
theorem iZpK_t (xs ys : List PyData) (r : DEnv) : iZpK [.tuple xs, .tuple ys] r = .ok (zipD xs ys, r) := rfl2 rfl
theorem iZpK_tl (xs ys : List PyData) (r : DEnv) : iZpK [.tuple xs, .list ys] r = .ok (zipD xs ys, r) := rfl2 rfl
theorem iZpK_lt (xs ys : List PyData) (r : DEnv) : iZpK [.list xs, .tuple ys] r = .ok (zipD xs ys, r) := rfl2 rfl
theorem qiZip_eq (ga : FTF) (r : DEnv) : qiZip ga r = bind2 (ga r) iZpK := rfl2 rfl
theorem SqB.sub (k : Bool) {F H : Hp} {a : Addr} {xs : List V} (s : Sub F H) (q : SqB K k F a xs) : SqB K k H a xs := by
  cases k
  · exact s.tup q
  · exact s.seq q
theorem SqB.go (k : Bool) {F F2 : Hp} {a : Addr} {xs : List V} (s : Same F F2) (q : SqB K k F a xs) : SqB K k F2 a xs := by
  cases k
  · exact sameT s q
  · exact s.seq q
/-- a frozen list or tuple, with its kind -/
theorem seq_of {x : PyData} {v : V} (o : Rp K F v x) : ∀ {ds : List PyData}, (x = .list ds ∨ x = .tuple ds) → ∃ k a xs, v = .ref a ∧ SqB K k F a xs ∧ Rps K F xs ds
  | ds, .inl e => by
    subst e
    cases o with
    | lst h1 h2 => exact ⟨true, _, _, rfl, h1, h2⟩
  | ds, .inr e => by
    subst e
    cases o with
    | tup h1 h2 => exact ⟨false, _, _, rfl, SqT.of h1, h2⟩
theorem qi_zip {elts : List Expr} {kk : Nat} {tpos : Pos} (hg : Gl X "zip") (hm : X.mg "zip" = none) (h : FF PX E X [a, b] ga) (hs : starEach [a, b] X.env = (false, eval a X.env) :: starEach [b] X.env := by rfl) (hpl : (backTo pos (starEach [b] X.env)).any (·.1) = false := by rfl) :
    PI X (.Tuple elts kk tpos) (.Call (.Name "zip" p) [a, b] [] pos) (tDI X.K E (ofT PX (qiZip ga))) :=
  wkI (pi_zipB hg hm h hs hpl) fun st H R ⟨F, r, P, R0, pp, k⟩ => by
    unfold ofT qiZip at pp
    refine ⟨F, r, _, R0, wp2_bind2 pp, fun zs r1 vs F1 H1 q1 A1 ok => ?_⟩
    have two : ∃ x y xs ys, zs = [x, y] ∧ (x = .list xs ∨ x = .tuple xs) ∧ (y = .list ys ∨ y = .tuple ys) ∧ P (zipD xs ys) r1 := by
      unfold iZpK at q1
      split at q1
      · exact ⟨_, _, _, _, rfl, .inl rfl, .inl rfl, q1⟩
      · exact ⟨_, _, _, _, rfl, .inr rfl, .inr rfl, q1⟩
      · exact ⟨_, _, _, _, rfl, .inr rfl, .inl rfl, q1⟩
      · exact ⟨_, _, _, _, rfl, .inl rfl, .inr rfl, q1⟩
      · exact q1.elim
    obtain ⟨x, y, xs, ys, rfl, ex, ey, q1⟩ := two
    cases ok with
    | cons o1 t =>
      cases t with
      | cons o2 t =>
        cases t
        obtain ⟨k1, a1, us, rfl, s1, c1⟩ := seq_of o1 ex
        obtain ⟨k2, a2, vs, rfl, s2, c2⟩ := seq_of o2 ey
        refine ⟨_, _, k1, k2, _, _, rfl, s1.sub k1 A1.rel.sub, s2.sub k2 A1.rel.sub, k _ _ _ _ _ q1 A1 ?_⟩
        refine dwalk_pair walk_zipB (by rw [zipD_len, rps_len c1, rps_len c2]) (fun F2 H s g => ⟨(s1.go k1 s).sub k1 g, (s2.go k2 s).sub k2 g⟩) fun i u v hi e1 e2 => ?_
        obtain ⟨x, ex, rx⟩ := rps_at' c1 e1
        obtain ⟨y, ey, ry⟩ := rps_at' c2 e2
        exact ⟨x, y, zipD_at ex ey, rx, ry⟩
/-! ### x[i] op= e, x a list of one's own -/
def rGetL : V → V → Hp → VK → Prop := fun o i H Q => ∃ p xs k z, o = .ref p ∧ i = .int k ∧ H p = some (.lst xs) ∧ 0 ≤ k ∧ k < 2 ^ 63 ∧ xs[k.toNat]? = some z ∧ Q z H
theorem get_listN : PGet X rGetL := by
  intro pins s σ H o i ov iv Q I ro ri h
  obtain ⟨p, xs, k, z, rfl, rfl, hp, h0, h1, hz, q⟩ := h
  cases ro
  obtain ⟨t, rfl⟩ := ri
  obtain ⟨its, rv, pl, hl⟩ := I.list (.inl (.inl hp))
  obtain ⟨w, ew, rw'⟩ := rv.get hz
  exact wpAny_getItem_list pl.isList h0 h1 (by simpa using ew) ⟨z, H, I, rw', q⟩
def agSl (o : Option (Option Sl)) : Option (List PyData) := match o with
  | some (some (.l (.list xs))) => some xs
  | some (some (.b (.list xs))) => some xs
  | _ => none
def agB (k : Int) : Bool := decide (0 ≤ k ∧ k < 9223372036854775808)
theorem agB_t {k : Int} (h : 0 ≤ k) (h2 : k < 9223372036854775808) : agB k = true := decide_eq_true ⟨h, h2⟩
def agK2c (i : Nat) (k : Int) (r : DEnv) (w : Vl) : Out Fl := match w with
  | .d z => putK3 i z k r r[i]?
  | _ => .bad
def agK2b (i : Nat) (k : Int) (op : Op2) (x : PyData) (r : DEnv) (y : PyData) : Out Fl := opt (op x y) (agK2c i k r)
def agK2 (i : Nat) (k : Int) (op : Op2) (x : PyData) (s : Vl) (r : DEnv) : Out Fl := opt (rd r s) (agK2b i k op x r)
def agK1c (i : Nat) (op : Op2) (fe : FT) (k : Int) (r : DEnv) (x : PyData) : Out Fl := bind2 (fe r) (agK2 i k op x)
def agK1b (i : Nat) (op : Op2) (fe : FT) (k : Int) (r : DEnv) (xs : List PyData) : Out Fl := need (agB k) (opt xs[k.toNat]? (agK1c i op fe k r))
def agK1 (i : Nat) (op : Op2) (fe : FT) (s : Vl) (r : DEnv) : Out Fl := match s with
  | .d (.int k) => opt (agSl r[i]?) (agK1b i op fe k r)
  | _ => .bad
def agK0 (i : Nat) (op : Op2) (fi fe : FT) (r : DEnv) (_ : List PyData) : Out Fl := bind2 (fi r) (agK1 i op fe)
def qsAgP (i : Nat) (op : Op2) (fi fe : FT) (r : DEnv) : Out Fl := opt (agSl r[i]?) (agK0 i op fi fe r)
theorem agSl_l (xs : List PyData) : agSl (some (some (.l (.list xs)))) = some xs := rfl2 rfl
theorem agSl_b (xs : List PyData) : agSl (some (some (.b (.list xs)))) = some xs := rfl2 rfl
theorem agK2c_eq (i : Nat) (k : Int) (r : DEnv) (z : PyData) : agK2c i k r (.d z) = putK3 i z k r r[i]? := rfl2 rfl
theorem agK2b_eq (i : Nat) (k : Int) (op : Op2) (x y : PyData) (r : DEnv) : agK2b i k op x r y = opt (op x y) (agK2c i k r) := rfl2 rfl
theorem agK2_eq (i : Nat) (k : Int) (op : Op2) (x : PyData) (s : Vl) (r : DEnv) : agK2 i k op x s r = opt (rd r s) (agK2b i k op x r) := rfl2 rfl
theorem agK1c_eq (i : Nat) (op : Op2) (fe : FT) (k : Int) (r : DEnv) (x : PyData) : agK1c i op fe k r x = bind2 (fe r) (agK2 i k op x) := rfl2 rfl
theorem agK1b_eq (i : Nat) (op : Op2) (fe : FT) (k : Int) (r : DEnv) (xs : List PyData) : agK1b i op fe k r xs = need (agB k) (opt xs[k.toNat]? (agK1c i op fe k r)) := rfl2 rfl
theorem agK1_eq (i : Nat) (op : Op2) (fe : FT) (k : Int) (r : DEnv) : agK1 i op fe (.d (.int k)) r = opt (agSl r[i]?) (agK1b i op fe k r) := rfl2 rfl
theorem agK0_eq (i : Nat) (op : Op2) (fi fe : FT) (r : DEnv) (xs : List PyData) : agK0 i op fi fe r xs = bind2 (fi r) (agK1 i op fe) := rfl2 rfl
theorem qsAgP_eq (i : Nat) (op : Op2) (fi fe : FT) (r : DEnv) : qsAgP i op fi fe r = opt (agSl r[i]?) (agK0 i op fi fe r) := rfl2 rfl
theorem agSl_some {o : Option (Option Sl)} {xs : List PyData} (h : agSl o = some xs) : ∃ s, o = some (some s) ∧ Sl.mu s = true ∧ s.it = .list xs := by
  unfold agSl at h
  split at h
  · cases h; exact ⟨_, rfl, rfl, rfl⟩
  · cases h; exact ⟨_, rfl, rfl, rfl⟩
  · cases h
theorem qs_agP {i : Nat} {fi fe : FT} {op : Operator} {ti : TIp} {B : PyData → PyData → PyData → Prop} {o2 : Op2} (h : PS X (.AugAssign tg op e pos) (tAugS (tVar i) (tD X.K E (ofT PX fi)) (tD X.K E (ofT PX fe)) rGetL ti rSetL))
    (hB : OpB X.K (fun x y H Q => ti x y H Q) B) (hk : ∀ x y w, o2 x y = some w → ∃ z, w = .d z ∧ B x y z) : FSt PX E X (.AugAssign tg op e pos) (qsAgP i o2 fi fe) := by
  refine wkS h fun D st H ⟨F, r, P, R, p, k⟩ => ?_
  unfold ofS qsAgP at p
  obtain ⟨xs0, e0, p⟩ := wp_opt p
  obtain ⟨s0, e0, m0, i0⟩ := agSl_some e0
  obtain ⟨q, ev, _⟩ := R.mu_at e0 m0
  unfold agK0 at p
  refine ⟨_, ev, F, r, _, R, wp_bind2 p, fun s r1 iv F1 H1 q1 A1 ok n => ?_⟩
  unfold agK1 at q1
  split at q1
  · rename_i kk
    have ok : Rp X.K F1 iv (.int kk) := ok
    cases ok
    obtain ⟨xs1, e1, q1⟩ := wp_opt q1
    obtain ⟨s1, e1, m1, i1⟩ := agSl_some e1
    obtain ⟨q', ev', ob⟩ := A1.rel.mu_at e1 m1
    rw [ev] at ev'
    cases ev'
    rw [i1] at ob
    obtain ⟨us, f1, h1, rs⟩ := ob_list ob
    unfold agK1b at q1
    obtain ⟨hb0, q1⟩ := wp_need q1
    obtain ⟨k0, k1⟩ := of_decide_eq_true hb0
    obtain ⟨x, ex, q1⟩ := wp_opt q1
    obtain ⟨z, ez, rz⟩ := rps_at rs ex
    unfold agK1c at q1
    refine ⟨q, us, kk, z, rfl, rfl, h1, k0, k1, ez, F1, r1, _, A1.rel, wp_bind2 q1, fun s2 r2 w F2 H2 q2 A2 ok2 n2 => ?_⟩
    unfold agK2 at q2
    obtain ⟨y, ey, q2⟩ := wp_opt q2
    unfold agK2b at q2
    obtain ⟨w2, ew2, q2⟩ := wp_opt q2
    obtain ⟨zz, rfl, hb⟩ := hk _ _ _ ew2
    have q2 : (putK3 i zz kk r2 r2[i]?).wp PX (Fl.to P) := q2
    have fin : ∀ F3 H3 u, Rel X.K E F3 H3 st r2 → Same F2 F3 → Rp X.K F3 u zz → rSetL (.ref q) (.int kk) u H3 (fun H6 => D.nx st H6) := by
      intro F3 H3 u R3 g hu
      unfold putK3 at q2
      have go : ∀ (sl : PyData → Sl) (ys : List PyData), r2[i]? = some (some (sl (.list ys))) → Sl.mu (sl (.list ys)) = true → (sl (.list ys)).it = .list ys → (∀ y', setC r2 i y' = r2.set i (some (sl y'))) →
          (opt (ixN ys.length kk) (putK4 sl i zz r2 ys)).wp PX (Fl.to P) → rSetL (.ref q) (.int kk) u H3 (fun H6 => D.nx st H6) := by
        intro sl ys e2 m2 i2 hset q3
        obtain ⟨j, ej, q3⟩ := wp_opt q3
        obtain ⟨q'', ev2, ob2⟩ := R3.mu_at e2 m2
        rw [ev] at ev2
        cases ev2
        rw [i2] at ob2
        obtain ⟨vs, f2, h2, rs2⟩ := ob_list ob2
        refine ⟨q, vs, kk, j, rfl, rfl, h2, by rw [rps_len rs2]; exact ej, ?_⟩
        have B := R3.wrt (o := .lst (vs.set j u)) e2 m2 ev (y := .list (ys.set j zz)) ⟨_, f2, upd_same, rps_set hu j rs2⟩
        have q3 : P.nx (r2.set i (some (sl (.list (ys.set j zz))))) := q3
        rw [← hset] at q3
        exact k.nx _ _ _ _ q3 B.rel (((A1.stp.gf.trans A2.stp.gf).trans g).trans B.stp.gf)
      split at q2
      · rename_i ys e2
        exact go .l ys e2 rfl rfl (fun y' => by unfold setC; simp only [e2]) q2
      · rename_i ys e2
        exact go .b ys e2 rfl rfl (fun y' => by unfold setC; simp only [e2]) q2
      · exact q2.elim
    refine hB F2 H2 z w x y zz _ A2.rel.sub (.inl (rpM A2.stp.gf rz)) (A2.rel.read ok2 ey) hb ⟨fun u hu => fin F2 H2 u A2.rel (Same.refl _) hu, fun p' o u np hu => ?_⟩
    have C := A2.rel.new (o := o) np
    exact fin _ _ u C.rel C.stp.gf hu
  · exact q1.elim
/-- += of ints -/
def opAddI (x y : PyData) : Option Vl := match x, y with
  | .int i, .int j => some (.d (.int (i + j)))
  | _, _ => none
theorem opAddI_int (i j : Int) : opAddI (.int i) (.int j) = some (.d (.int (i + j))) := rfl2 rfl
theorem opAddI_ok : ∀ x y w, opAddI x y = some w → ∃ z, w = .d z ∧ bAdd x y z := fun x y w h => by
  unfold opAddI at h
  split at h
  · cases h; exact ⟨_, rfl, _, _, rfl, rfl, trivial, rfl⟩
  · cases h
theorem oIpAdd : OpB K (fun x y H Q => (ipI fun i j => i + j) x y H Q) bAdd := by
  rintro F H v w x y z Q g h1 h2 ⟨i, j, rfl, rfl, _, rfl⟩ hy
  exact ⟨i, j, h1.int, h2.int, hy.1 _ (.int _)⟩
/-! ### bits -/
abbrev bShl := I2 (fun i j => .int (i * 2 ^ j.toNat)) CPow
abbrev bShr := I2 (fun i j => .int (i / 2 ^ j.toNat)) fun _ j => 0 ≤ j
abbrev bAndI := I2 (fun i j => .int (Builtin.bitAnd i j)) fun _ _ => True
abbrev bOrI := I2 (fun i j => .int (Builtin.bitOr i j)) fun _ _ => True
def opShl (x y : PyData) : Option Vl := match x, y with
  | .int i, .int j => onee (powB i j) (some (.d (.int (i * 2 ^ j.toNat))))
  | _, _ => none
def opShr (x y : PyData) : Option Vl := match x, y with
  | .int i, .int j => onee (agB j) (some (.d (.int (i / 2 ^ j.toNat))))
  | _, _ => none
def opAndI (x y : PyData) : Option Vl := match x, y with
  | .int i, .int j => some (.d (.int (Builtin.bitAnd i j)))
  | _, _ => none
def opOrI (x y : PyData) : Option Vl := match x, y with
  | .int i, .int j => some (.d (.int (Builtin.bitOr i j)))
  | _, _ => none
theorem opShl_int (i j : Int) : opShl (.int i) (.int j) = onee (powB i j) (some (.d (.int (i * 2 ^ j.toNat)))) := rfl2 rfl
theorem opShr_int (i j : Int) : opShr (.int i) (.int j) = onee (agB j) (some (.d (.int (i / 2 ^ j.toNat)))) := rfl2 rfl
theorem opAndI_int (i j : Int) : opAndI (.int i) (.int j) = some (.d (.int (Builtin.bitAnd i j))) := rfl2 rfl
theorem opOrI_int (i j : Int) : opOrI (.int i) (.int j) = some (.d (.int (Builtin.bitOr i j))) := rfl2 rfl
theorem qe_shl (ha : FE PX E X a fa) (hb : FE PX E X b fb) : FE PX E X (.BinOp a .LShift b pos) (qOp opShl fa fb) := qe_opD (B := bShl) (de_op op_shl (opB_int fun _ _ _ _ => .int _) ha hb) fun x y w h => by
  unfold opShl at h
  split at h
  · obtain ⟨hh, h2⟩ := onee_some h
    cases h2
    obtain ⟨h1, h3, h4⟩ := of_decide_eq_true hh
    exact ⟨_, rfl, _, _, rfl, rfl, ⟨h1, by omega, h4⟩, rfl⟩
  · cases h
theorem qe_shr (ha : FE PX E X a fa) (hb : FE PX E X b fb) : FE PX E X (.BinOp a .RShift b pos) (qOp opShr fa fb) := qe_opD (B := bShr) (de_op op_shr (opB_int fun _ _ _ _ => .int _) ha hb) fun x y w h => by
  unfold opShr at h
  split at h
  · obtain ⟨hh, h2⟩ := onee_some h
    cases h2
    exact ⟨_, rfl, _, _, rfl, rfl, (of_decide_eq_true hh).1, rfl⟩
  · cases h
theorem qe_andI (ha : FE PX E X a fa) (hb : FE PX E X b fb) : FE PX E X (.BinOp a .BitAnd b pos) (qOp opAndI fa fb) := qe_opD (B := bAndI) (de_op op_and (opB_int0 fun _ _ _ _ => .int _) ha hb) fun x y w h => by
  unfold opAndI at h
  split at h
  · cases h; exact ⟨_, rfl, _, _, rfl, rfl, trivial, rfl⟩
  · cases h
theorem qe_orI (ha : FE PX E X a fa) (hb : FE PX E X b fb) : FE PX E X (.BinOp a .BitOr b pos) (qOp opOrI fa fb) := qe_opD (B := bOrI) (de_op op_or (opB_int0 fun _ _ _ _ => .int _) ha hb) fun x y w h => by
  unfold opOrI at h
  split at h
  · cases h; exact ⟨_, rfl, _, _, rfl, rfl, trivial, rfl⟩
  · cases h
/-! ### is None -/
def isNoneD : PyData → Bool
  | .none => true
  | _ => false
end
end DL
set_option Elab.async false
set_option linter.all false
set_option autoImplicit false
set_option maxRecDepth 100000
namespace DL
open PySem L2 Out
/-! ### data that are alike -/
theorem eqv_bool (a b : Bool) : PyData.eqv (.bool a) (.bool b) = (a == b) := by rw [PyData.eqv]
theorem eqv_none : PyData.eqv .none .none = true := by rw [PyData.eqv]
theorem eqv_tup (xs ys : List PyData) : PyData.eqv (.tuple xs) (.tuple ys) = PyData.eqvAll xs ys := by rw [PyData.eqv]
theorem eqv_lst (xs ys : List PyData) : PyData.eqv (.list xs) (.list ys) = PyData.eqvAll xs ys := by rw [PyData.eqv]
theorem eqvA_nil : PyData.eqvAll [] [] = true := by rw [PyData.eqvAll]
theorem eqvA_cons (x y : PyData) (xs ys : List PyData) : PyData.eqvAll (x :: xs) (y :: ys) = (PyData.eqv x y && PyData.eqvAll xs ys) := by rw [PyData.eqvAll]
theorem eqvA_cn (x : PyData) (xs : List PyData) : PyData.eqvAll (x :: xs) [] = false := by rw [PyData.eqvAll]
theorem eqvA_nc (x : PyData) (xs : List PyData) : PyData.eqvAll [] (x :: xs) = false := by rw [PyData.eqvAll]
theorem eqv_self {x : PyData} (h : okE x = true) : PyData.eqv x x = true := SeqAt.eqv_refl x (SeqAt.canLay_of_shaped (okE_iff.mp h).2)
theorem opEq_bool (i j : Bool) : opEq (.bool i) (.bool j) = some (.d (.bool (i == j))) := opEq_of (by
  show onee (okE (.bool i) && okE (.bool j)) (some (PyData.eqv (.bool i) (.bool j))) = _
  rw [okE_bool, okE_bool, eqv_bool]
  rfl)
theorem opNe_bool (i j : Bool) : opNe (.bool i) (.bool j) = some (.d (.bool !(i == j))) := opNe_of (by
  show onee (okE (.bool i) && okE (.bool j)) (some (PyData.eqv (.bool i) (.bool j))) = _
  rw [okE_bool, okE_bool, eqv_bool]
  rfl)
theorem onee_map (b : Bool) (o : Option Bool) (f : Bool → Vl) : (onee b o).map f = onee b (o.map f) := by cases b <;> rfl
theorem opEq_tup (xs ys : List PyData) : opEq (.tuple xs) (.tuple ys) = onee (okE (.tuple xs) && okE (.tuple ys)) (some (.d (.bool (PyData.eqv (.tuple xs) (.tuple ys))))) := onee_map _ _ _
theorem opNe_tup (xs ys : List PyData) : opNe (.tuple xs) (.tuple ys) = onee (okE (.tuple xs) && okE (.tuple ys)) (some (.d (.bool !(PyData.eqv (.tuple xs) (.tuple ys))))) := onee_map _ _ _
theorem opEq_lst (xs ys : List PyData) : opEq (.list xs) (.list ys) = onee (okE (.list xs) && okE (.list ys)) (some (.d (.bool (PyData.eqv (.list xs) (.list ys))))) := onee_map _ _ _
theorem opNe_lst (xs ys : List PyData) : opNe (.list xs) (.list ys) = onee (okE (.list xs) && okE (.list ys)) (some (.d (.bool !(PyData.eqv (.list xs) (.list ys))))) := onee_map _ _ _
theorem opEq_self {x : PyData} (h : okE x = true) : opEq x x = some (.d (.bool true)) := opEq_of (by
  unfold eqD
  split
  · simp
  · rw [h, eqv_self h]; rfl)
theorem opNe_self {x : PyData} (h : okE x = true) : opNe x x = some (.d (.bool false)) := opNe_of (b := true) (by
  unfold eqD
  split
  · simp
  · rw [h, eqv_self h]; rfl)
/-- whole numbers, words, and rows of such -/
def plI : PyData → Bool
  | .int _ => true
  | _ => false
mutual
def pln : PyData → Bool
  | .int _ | .str _ => true
  | .list xs | .tuple xs => plnA xs
  | .none | .bool _ | .dict _ => false
def plnA : List PyData → Bool
  | [] => true
  | x :: xs => pln x && plnA xs
end
mutual
theorem eqv_pln : ∀ x y : PyData, pln x = true → pln y = true → (PyData.eqv x y = true ↔ x = y)
  | .int i, .int j, _, _ => by rw [eqv_int]; simp
  | .str i, .str j, _, _ => by rw [eqv_str]; simp
  | .list xs, .list ys, hx, hy => by rw [eqv_lst, eqvA_pln xs ys hx hy]; simp
  | .tuple xs, .tuple ys, hx, hy => by rw [eqv_tup, eqvA_pln xs ys hx hy]; simp
  | .int _, .str _, _, _ | .int _, .list _, _, _ | .int _, .tuple _, _, _ => by rw [PyData.eqv]; simp
  | .str _, .int _, _, _ | .str _, .list _, _, _ | .str _, .tuple _, _, _ => by rw [PyData.eqv]; simp
  | .list _, .str _, _, _ | .list _, .int _, _, _ | .list _, .tuple _, _, _ => by rw [PyData.eqv]; simp
  | .tuple _, .str _, _, _ | .tuple _, .int _, _, _ | .tuple _, .list _, _, _ => by rw [PyData.eqv]; simp
  | .none, _, h, _ | .bool _, _, h, _ | .dict _, _, h, _ => nomatch h
  | _, .none, _, h | _, .bool _, _, h | _, .dict _, _, h => nomatch h
theorem eqvA_pln : ∀ x y : List PyData, plnA x = true → plnA y = true → (PyData.eqvAll x y = true ↔ x = y)
  | [], [], _, _ => by rw [eqvA_nil]; simp
  | x :: xs, y :: ys, hx, hy => by
    have h1 := Bool.and_eq_true_iff.mp hx
    have h2 := Bool.and_eq_true_iff.mp hy
    rw [eqvA_cons, Bool.and_eq_true_iff, eqv_pln x y h1.1 h2.1, eqvA_pln xs ys h1.2 h2.2]
    simp
  | [], _ :: _, _, _ => by rw [eqvA_nc]; simp
  | _ :: _, [], _, _ => by rw [eqvA_cn]; simp
end
theorem plnA_map {α : Type} {f : α → PyData} : ∀ {xs : List α}, (∀ x ∈ xs, pln (f x) = true) → plnA (xs.map f) = true
  | [], _ => rfl
  | x :: xs, h => Bool.and_eq_true_iff.mpr ⟨h x List.mem_cons_self, plnA_map fun y hy => h y (List.mem_cons_of_mem _ hy)⟩
theorem opEq_pln {x y : PyData} [d : Decidable (x = y)] (hx : okE x = true) (hy : okE y = true) (px : pln x = true) (py : pln y = true) : opEq x y = some (.d (.bool (decide (x = y)))) := opEq_of (by
  unfold eqD
  split
  · congr 1
    simp
  · rw [hx, hy]
    show some _ = _
    congr 1
    rw [Bool.eq_iff_iff, eqv_pln x y px py, decide_eq_true_iff])
theorem opNe_pln {x y : PyData} [d : Decidable (x = y)] (hx : okE x = true) (hy : okE y = true) (px : pln x = true) (py : pln y = true) : opNe x y = some (.d (.bool !(decide (x = y)))) := opNe_of (by
  unfold eqD
  split
  · congr 1
    simp
  · rw [hx, hy]
    show some _ = _
    congr 1
    rw [Bool.eq_iff_iff, eqv_pln x y px py, decide_eq_true_iff])
theorem inB_iff {x : PyData} {ds : List PyData} (px : pln x = true) (pd : ∀ d ∈ ds, pln d = true) : inB x ds = true ↔ x ∈ ds := by
  unfold inB
  rw [List.any_eq_true]
  constructor
  · rintro ⟨e, he, h⟩
    rw [← (eqv_pln e x (pd e he) px).mp h]
    exact he
  · intro h
    exact ⟨x, h, (eqv_pln x x px px).mpr rfl⟩
end DL
set_option Elab.async false
set_option linter.all false
set_option autoImplicit false
set_option maxRecDepth 100000
set_option maxHeartbeats 4000000
/-! FLg: range with a step. -/
namespace DL
open PySem PySem.Spec PyProof.Rows L2 Out
section
variable {PX : Exn → Prop} {E : Ent} {X : Cx} {F H : Hp} {K : PySem.W.Frag} {a b c e : Expr} {tg : Expr} {p pos : Pos} {ga : FTF}
def rngC (lo c : Int) (n : Nat) : List PyData := (List.range n).map fun i => .int (lo + (i : Nat) * c)
theorem rngC_len (lo c : Int) (n : Nat) : (rngC lo c n).length = n := by unfold rngC; simp
theorem dwalk_rangeC {lo c : Int} {n : Nat} : DWalk K F (Itc lo c n) (rngC lo c n) := by
  refine ⟨_, _, by rw [rngC_len]; exact walk_rangeC (lo := lo) (c := c) (n := n), fun _ _ _ _ => trivial, fun i F1 H v H' hi s g y => ?_⟩
  rw [rngC_len] at hi
  refine ⟨.int (lo + (i : Nat) * c), by unfold rngC; simp [hi], .inl ⟨y.1, ?_⟩⟩
  rw [y.2]
  exact .int _
def r3B (i j c : Int) : Bool := decide (c ≠ 0 ∧ c.natAbs < 1073741824) && Builtin.Range.small i j c
def r3N (i j c : Int) : Nat := (Builtin.Range.rangeSize i j c).toNat
def iR3K (xs : List PyData) (r : DEnv) : Out (List PyData × DEnv) := match xs with
  | [.int i, .int j, .int c] => need (r3B i j c) (.ok (rngC i c (r3N i j c), r))
  | _ => .bad
def qiR3 (ga : FTF) (r : DEnv) : Out (List PyData × DEnv) := bind2 (ga r) iR3K
theorem iR3K_eq (i j c : Int) (r : DEnv) : iR3K [.int i, .int j, .int c] r = need (r3B i j c) (.ok (rngC i c (r3N i j c), r)) := rfl2 rfl
theorem qiR3_eq (ga : FTF) (r : DEnv) : qiR3 ga r = bind2 (ga r) iR3K := rfl2 rfl
def iRange3 (ga : DTF) (r : DEnv) (P : List PyData → DEnv → Prop) : Prop := ga r fun xs r1 => ∃ i j c, xs = [.int i, .int j, .int c] ∧ RgC i j c (r3N i j c) ∧ P (rngC i c (r3N i j c)) r1
theorem di_range3 {ga : DTF} (hg : Gl X "range") (hm : X.mg "range" = none) (ha : DF E X [a, b, c] ga) (hs : starEach [a, b, c] X.env = (false, eval a X.env) :: starEach [b, c] X.env := by rfl)
    (hpl : (backTo pos (starEach [b, c] X.env)).any (·.1) = false := by rfl) : PI X tg (.Call (.Name "range" p) [a, b, c] [] pos) (tDI X.K E (iRange3 ga)) :=
  wkI (pi_range3 hg hm ha hs hpl) fun st H R ⟨F, r, P, R0, p, k⟩ => ⟨F, r, _, R0, p, fun xs r1 vs F1 H1 q1 A1 ok => by
    obtain ⟨i, j, c, e, hb, q⟩ := q1
    subst e
    cases ok with
    | cons h t =>
      cases t with
      | cons h' t =>
        cases t with
        | cons h'' t =>
          cases t
          cases h
          cases h'
          cases h''
          exact ⟨i, j, c, _, rfl, hb, k _ _ _ _ _ q A1 dwalk_rangeC⟩⟩
theorem qi_range3 (hg : Gl X "range") (hm : X.mg "range" = none) (ha : FF PX E X [a, b, c] ga) (hs : starEach [a, b, c] X.env = (false, eval a X.env) :: starEach [b, c] X.env := by rfl)
    (hpl : (backTo pos (starEach [b, c] X.env)).any (·.1) = false := by rfl) : PI X tg (.Call (.Name "range" p) [a, b, c] [] pos) (tDI X.K E (ofT PX (qiR3 ga))) := fi_of (di_range3 hg hm ha hs hpl) fun r P p => by
  unfold ofT qiR3 at p
  refine wp2_mono (wp2_bind2 p) fun xs r1 q => ?_
  unfold iR3K at q
  split at q
  · obtain ⟨hh, q⟩ := wp2_need q
    unfold r3B at hh
    rw [Bool.and_eq_true] at hh
    have h := of_decide_eq_true hh.1
    exact ⟨_, _, _, rfl, ⟨h.1, h.2, hh.2, rangeSize_toNat _ _ _⟩, q⟩
  · exact q.elim
end
/-! ### list(range(..)) -/
section
variable {PX : Exn → Prop} {E : Ent} {X : Cx} {F H : Hp} {K : PySem.W.Frag} {a b : Expr} {p pos p2 pos2 : Pos} {fa fb : FT}
theorem rps_rg (i j : Int) : Rps K F (rgV i j) (rngL i (j - i).toNat) := by
  unfold rgV rngL
  induction (List.range (j - i).toNat) with
  | nil => exact .nil
  | cons x xs ih => exact .cons (.int _) ih
def lrB (i j : Int) : Bool := decide (-(2 ^ 62) ≤ i ∧ i < 2 ^ 62 ∧ -(2 ^ 62) ≤ j ∧ j < 2 ^ 62 ∧ (j - i).toNat ≤ 2 ^ 24)
theorem lrB_t {i j : Int} (h1 : -(2 ^ 62) ≤ i) (h2 : i < 2 ^ 62) (h3 : j < 2 ^ 62) (h4 : -(2 ^ 62) ≤ j) (h5 : j - i ≤ 16777216) : lrB i j = true := decide_eq_true ⟨h1, h2, h4, h3, by omega⟩
def dLr1 (fa : DT) (r : DEnv) (P : Vl → DEnv → Prop) : Prop := fa r fun s r1 => ∃ j, s = .d (.int j) ∧ RgOk 0 j ∧ P (.n (.list (rngL 0 (j - 0).toNat))) r1
theorem de_listR1 {fa : DT} (hc : X.calm = true) (hg : Gl X "list") (hm : X.mg "list" = none) (hg2 : Gl X "range") (hm2 : X.mg "range" = none) (ha : DE E X a fa)
    (na : starEach [a] X.env = (false, eval a X.env) :: starEach [] X.env := by rfl)
    (ne : starEach [.Call (.Name "range" p2) [a] [] pos2] X.env = (false, eval (.Call (.Name "range" p2) [a] [] pos2) X.env) :: starEach [] X.env := by rfl) :
    DE E X (.Call (.Name "list" p) [.Call (.Name "range" p2) [a] [] pos2] [] pos) (dLr1 fa) := by
  refine wkE (pe_listRg hc hg hm (prg_1 hg2 hm2 ha na) ne) fun st H Q ⟨F, r, P, R, p, k⟩ => ⟨F, r, _, R, p, fun s r1 v F1 H1 q1 A1 ok n => ?_⟩
  obtain ⟨j, e, h, q⟩ := q1
  subst e
  cases (show Rp X.K F1 v (.int j) from ok)
  exact ⟨j, rfl, h, fun l hl => yldL_of A1 q k l _ hl (rps_rg 0 j)⟩
def lr1K (s : Vl) (r : DEnv) : Out (Vl × DEnv) := match s with
  | .d (.int j) => need (lrB 0 j) (.ok (.n (.list (rngL 0 j.toNat)), r))
  | _ => .bad
def qLr1 (fa : FT) (r : DEnv) : Out (Vl × DEnv) := bind2 (fa r) lr1K
theorem lr1K_eq (j : Int) (r : DEnv) : lr1K (.d (.int j)) r = need (lrB 0 j) (.ok (.n (.list (rngL 0 j.toNat)), r)) := rfl2 rfl
theorem qLr1_eq (fa : FT) (r : DEnv) : qLr1 fa r = bind2 (fa r) lr1K := rfl2 rfl
theorem qe_listR1 (hc : X.calm = true) (hg : Gl X "list") (hm : X.mg "list" = none) (hg2 : Gl X "range") (hm2 : X.mg "range" = none) (ha : FE PX E X a fa)
    (na : starEach [a] X.env = (false, eval a X.env) :: starEach [] X.env := by rfl)
    (ne : starEach [.Call (.Name "range" p2) [a] [] pos2] X.env = (false, eval (.Call (.Name "range" p2) [a] [] pos2) X.env) :: starEach [] X.env := by rfl) :
    FE PX E X (.Call (.Name "list" p) [.Call (.Name "range" p2) [a] [] pos2] [] pos) (qLr1 fa) := fe_of (de_listR1 hc hg hm hg2 hm2 ha na ne) fun r P p => by
  unfold ofT qLr1 at p
  refine wp2_mono (wp2_bind2 p) fun s r1 q => ?_
  unfold lr1K at q
  split at q
  · obtain ⟨hh, q⟩ := wp2_need q
    unfold lrB at hh
    have hh := of_decide_eq_true hh
    refine ⟨_, rfl, hh, ?_⟩
    rw [Int.sub_zero]
    exact q
  · exact q.elim
def dLr2 (fa fb : DT) (r : DEnv) (P : Vl → DEnv → Prop) : Prop := fa r fun s r1 => ∃ i, s = .d (.int i) ∧ fb r1 fun s r2 => ∃ j, s = .d (.int j) ∧ RgOk i j ∧ P (.n (.list (rngL i (j - i).toNat))) r2
theorem de_listR2 {fa fb : DT} (hc : X.calm = true) (hg : Gl X "list") (hm : X.mg "list" = none) (hg2 : Gl X "range") (hm2 : X.mg "range" = none) (ha : DE E X a fa) (hb : DE E X b fb)
    (na : starEach [a, b] X.env = (false, eval a X.env) :: starEach [b] X.env := by rfl) (nb : starEach [b] X.env = (false, eval b X.env) :: starEach [] X.env := by rfl) (hp : (backTo pos2 (starEach [b] X.env)).any (·.1) = false := by rfl)
    (ne : starEach [.Call (.Name "range" p2) [a, b] [] pos2] X.env = (false, eval (.Call (.Name "range" p2) [a, b] [] pos2) X.env) :: starEach [] X.env := by rfl) :
    DE E X (.Call (.Name "list" p) [.Call (.Name "range" p2) [a, b] [] pos2] [] pos) (dLr2 fa fb) := by
  refine wkE (pe_listRg hc hg hm (prg_2 hg2 hm2 ha hb na nb hp) ne) fun st H Q ⟨F, r, P, R, p, k⟩ => ⟨F, r, _, R, p, fun s r1 v F1 H1 q1 A1 ok n => ?_⟩
  obtain ⟨i, e, q1⟩ := q1
  subst e
  cases (show Rp X.K F1 v (.int i) from ok)
  refine ⟨F1, r1, _, A1.rel, q1, fun s r2 v2 F2 H2 q2 A2 ok2 n2 => ?_⟩
  obtain ⟨j, e, h, q⟩ := q2
  subst e
  cases (show Rp X.K F2 v2 (.int j) from ok2)
  exact ⟨i, j, rfl, rfl, h, fun l hl => yldL_of (A1.trans A2) q k l _ hl (rps_rg i j)⟩
def lr2K2 (i : Int) (s : Vl) (r : DEnv) : Out (Vl × DEnv) := match s with
  | .d (.int j) => need (lrB i j) (.ok (.n (.list (rngL i (j - i).toNat)), r))
  | _ => .bad
def lr2K (fb : FT) (s : Vl) (r : DEnv) : Out (Vl × DEnv) := match s with
  | .d (.int i) => bind2 (fb r) (lr2K2 i)
  | _ => .bad
def qLr2 (fa fb : FT) (r : DEnv) : Out (Vl × DEnv) := bind2 (fa r) (lr2K fb)
theorem lr2K2_eq (i j : Int) (r : DEnv) : lr2K2 i (.d (.int j)) r = need (lrB i j) (.ok (.n (.list (rngL i (j - i).toNat)), r)) := rfl2 rfl
theorem lr2K_eq (fb : FT) (i : Int) (r : DEnv) : lr2K fb (.d (.int i)) r = bind2 (fb r) (lr2K2 i) := rfl2 rfl
theorem qLr2_eq (fa fb : FT) (r : DEnv) : qLr2 fa fb r = bind2 (fa r) (lr2K fb) := rfl2 rfl
theorem qe_listR2 (hc : X.calm = true) (hg : Gl X "list") (hm : X.mg "list" = none) (hg2 : Gl X "range") (hm2 : X.mg "range" = none) (ha : FE PX E X a fa) (hb : FE PX E X b fb)
    (na : starEach [a, b] X.env = (false, eval a X.env) :: starEach [b] X.env := by rfl) (nb : starEach [b] X.env = (false, eval b X.env) :: starEach [] X.env := by rfl) (hp : (backTo pos2 (starEach [b] X.env)).any (·.1) = false := by rfl)
    (ne : starEach [.Call (.Name "range" p2) [a, b] [] pos2] X.env = (false, eval (.Call (.Name "range" p2) [a, b] [] pos2) X.env) :: starEach [] X.env := by rfl) :
    FE PX E X (.Call (.Name "list" p) [.Call (.Name "range" p2) [a, b] [] pos2] [] pos) (qLr2 fa fb) := fe_of (de_listR2 hc hg hm hg2 hm2 ha hb na nb hp ne) fun r P p => by
  unfold ofT qLr2 at p
  refine wp2_mono (wp2_bind2 p) fun s r1 q => ?_
  unfold lr2K at q
  split at q
  · refine ⟨_, rfl, wp2_mono (wp2_bind2 q) fun s r2 q => ?_⟩
    unfold lr2K2 at q
    split at q
    · obtain ⟨hh, q⟩ := wp2_need q
      unfold lrB at hh
      have hh := of_decide_eq_true hh
      exact ⟨_, rfl, hh, q⟩
    · exact q.elim
  · exact q.elim
end
theorem r3_up {i j c : Int} (hi : -(2 ^ 60) ≤ i) (hi' : i < 2 ^ 60) (hj : -(2 ^ 60) ≤ j) (hj' : j < 2 ^ 60) (hc : 1 ≤ c) (hc' : c < 1073741824) : r3B i j c = true ∧ r3N i j c = if i < j then ((j - i - 1) / c + 1).toNat else 0 := by
  have e : Builtin.Range.rangeSize i j c = if i < j then (j - i - 1) / c + 1 else 0 := by
    unfold Builtin.Range.rangeSize
    rw [if_pos (by omega)]
  have q : i < j → 0 ≤ (j - i - 1) / c ∧ (j - i - 1) / c ≤ j - i - 1 := fun h => ⟨Int.ediv_nonneg (by omega) (by omega), Int.ediv_le_self _ (by omega)⟩
  constructor
  · unfold r3B
    rw [decide_eq_true ⟨by omega, by omega⟩, Bool.true_and]
    unfold Builtin.Range.small
    rw [e]
    simp only [Builtin.Range.rangeFitsLong, Bool.and_eq_true, Bool.or_eq_true, decide_eq_true_eq, beq_iff_eq, show c > 0 by omega, if_true]
    split
    · rename_i h
      have := q h
      omega
    · omega
  · unfold r3N
    rw [e]
    split
    · rfl
    · rfl
end DL
set_option Elab.async false
set_option linter.all false
set_option autoImplicit false
set_option maxRecDepth 100000
set_option maxHeartbeats 4000000
/-! FLh: sorted of data. -/
namespace DL
open PySem PySem.Spec PyProof.Rows L2 Out
/-! sorting, told so that the kernel can run it -/
def mgF {α : Type} (le : α → α → Bool) : Nat → List α → List α → List α
  | 0, xs, ys => xs ++ ys
  | _ + 1, [], ys => ys
  | _ + 1, xs, [] => xs
  | n + 1, x :: xs, y :: ys => match le x y with
    | true => x :: mgF le n xs (y :: ys)
    | false => y :: mgF le n (x :: xs) ys
theorem mgF_eq {α : Type} (le : α → α → Bool) : ∀ (n : Nat) (xs ys : List α), xs.length + ys.length ≤ n → mgF le n xs ys = List.merge xs ys le
  | 0, xs, ys, h => by
    have h1 : xs = [] := List.length_eq_zero_iff.mp (by omega)
    have h2 : ys = [] := List.length_eq_zero_iff.mp (by omega)
    subst h1 h2
    rw [List.nil_merge]; rfl
  | n + 1, [], ys, h => by rw [List.nil_merge]; rfl
  | n + 1, x :: xs, [], h => by rw [List.merge_right]; rfl
  | n + 1, x :: xs, y :: ys, h => by
    rw [List.cons_merge_cons]
    simp only [List.length_cons] at h
    unfold mgF
    cases q : le x y with
    | true =>
      rw [if_pos rfl]
      exact congrArg _ (mgF_eq le n xs (y :: ys) (by simp only [List.length_cons]; omega))
    | false =>
      rw [if_neg Bool.false_ne_true]
      exact congrArg _ (mgF_eq le n (x :: xs) ys (by simp only [List.length_cons]; omega))
def msF {α : Type} (le : α → α → Bool) : Nat → List α → List α
  | 0, xs => xs
  | _ + 1, [] => []
  | _ + 1, [a] => [a]
  | n + 1, a :: b :: xs => mgF le (xs.length + 2) (msF le n ((a :: b :: xs).take ((xs.length + 2 + 1) / 2))) (msF le n ((a :: b :: xs).drop ((xs.length + 2 + 1) / 2)))
theorem msF_eq {α : Type} (le : α → α → Bool) : ∀ (n : Nat) (xs : List α), xs.length ≤ n → msF le n xs = xs.mergeSort le
  | 0, xs, h => by
    have h1 : xs = [] := List.length_eq_zero_iff.mp (by omega)
    subst h1
    rw [List.mergeSort_nil]; rfl
  | n + 1, [], h => by rw [List.mergeSort_nil]; rfl
  | n + 1, [a], h => by rw [List.mergeSort_singleton]; rfl
  | n + 1, a :: b :: xs, h => by
    have hl : (a :: b :: xs).length = xs.length + 2 := rfl
    rw [hl] at h
    have e : (a :: b :: xs).mergeSort le = List.merge (((a :: b :: xs).take ((xs.length + 2 + 1) / 2)).mergeSort le) (((a :: b :: xs).drop ((xs.length + 2 + 1) / 2)).mergeSort le) le := by
      rw [List.mergeSort]
      simp [List.MergeSort.Internal.splitInTwo]
    rw [e]
    unfold msF
    rw [msF_eq le n _ (by rw [List.length_take]; omega), msF_eq le n _ (by rw [List.length_drop]; omega)]
    exact mgF_eq le _ _ _ (by rw [List.length_mergeSort, List.length_mergeSort, List.length_take, List.length_drop]; omega)
section
variable {prog : Program} {w : World} {A : Around} {EE : Value → Shared → Prop} {s : Shared}
/-- what was there stays -/
structure Grew (s s1 : Shared) : Prop where
  kept : ∀ b o, s.heap.get? b = some o → s1.heap.get? b = some o
  gens : s1.gens = s.gens
  os : s1.os = s.os
  size : s.heap.objs.size ≤ s1.heap.objs.size
/-- sorted(x), whatever x is: by what its items are known to be -/
theorem sorted_coll {x : Value} {R : Value → PyData → Prop} {G : List Value → List PyData → Prop} {Q : Value → Shared → Prop}
    (hr : ∀ u d, R u d → ∃ as, Reads s.heap u d as)
    (hg : ∀ vs ds, G vs ds → PySem.W.EachIs R vs ds ∧ PySem.W.AllAlike ds ∧ Srt ds ∧ ds.length ≤ sizeLine ∧ ∀ d ∈ ds, A.units + 2 + d.depth < cLine)
    (hc : ∀ (Q' : List Value → Shared → Prop) (E' : Value → Shared → Prop), (∀ vs ds s1, G vs ds → Grew s s1 → Q' vs s1) → wpAny (model prog w) A.in1 (collect x) Q' E' s)
    (hQ : ∀ vs ds (out : List Value) c p s2, G vs ds → Grew s s2 → s.heap.objs.size ≤ p → s2.heap.get? p = some (seqObj "list" out.toArray c) → PySem.W.EachIs R out (ds.mergeSort (PySem.W.dataLe false id)) → Q (.ref p) s2) :
    wpAny (model prog w) A (call (.builtin "sorted") [x]) Q EE s := by
  refine Calls.call_function_entry kind_sorted plain_sorted entry_sorted (args_sorted1 _) ?_
  unfold Builtin.«sorted»
  refine wpAny_bind (m := checkCount "sorted" 1 1 _) (wpAny_pure ?_)
  refine wpAny_bind (hc _ _ fun vs ds s1 g k => ?_)
  obtain ⟨he, ha, hs, hl, hu⟩ := hg vs ds g
  have hlv : vs.length ≤ sizeLine := by rw [he.length]; exact hl
  refine wpAny_bind (wpAny_newList ?_ hlv)
  have hoL : (s1.heap.push (seqObj "list" vs.toArray 0)).get? s1.heap.objs.size = some (seqObj "list" vs.toArray 0) := Heap.get?_push_size _ rfl
  have rd : PySem.W.EachIs (fun u d => ∃ as, Reads (PySem.W.sortingHeap (s1.heap.push (seqObj "list" vs.toArray 0)) s1.heap.objs.size vs) u d as) vs ds := he.mono fun u d r => by
    obtain ⟨as, q⟩ := hr u d r
    exact ⟨as, PyProof.Rows.Reads.keeps (fun b o e => PySem.W.sortingHeap_old (Nat.ne_of_lt (Heap.lt_size (k.kept b o e))) (Heap.get?_push_of_some _ (k.kept b o e))) q⟩
  refine wpAny_bind (wpAny_holding (wpAny_call_entry slot_list_sort ⟨_, hoL, rfl⟩ entry_list_sort (PySem.W.list_sort_vals (s := { s1 with heap := s1.heap.push (seqObj "list" vs.toArray 0) }) hoL (sortsAt (s := { s1 with heap := PySem.W.sortingHeap (s1.heap.push (seqObj "list" vs.toArray 0)) s1.heap.objs.size vs }) rd ha hs (fun d hd => hu d hd)) hlv ⟨_, rfl, ?_⟩) (args_list_sort _)))
  obtain ⟨c, hcc⟩ := sortedHeap_at (vs := vs) (out := (PySem.W.sortVals (PySem.W.dataKind (PySem.W.sortingHeap (s1.heap.push (seqObj "list" vs.toArray 0)) s1.heap.objs.size vs) ds) false vs vs).toArray) hoL
  have hsv := PySem.W.sortVals_data (enc := id) false he (by simpa using rd) (by simpa using ha)
  rw [List.map_id] at hsv
  refine wpAny_pure ⟨_, rfl, hQ vs ds _ c s1.heap.objs.size _ g ⟨fun b u e => ?_, k.gens, k.os, ?_⟩ k.size hcc hsv⟩
  · have q := k.kept b u e
    have hlt := Heap.lt_size q
    show (sortedHeap (s1.heap.push (seqObj "list" vs.toArray 0)) s1.heap.objs.size vs _).get? b = some u
    rw [sortedHeap_old (Nat.ne_of_lt hlt) (by rw [size_push']; exact Nat.lt_succ_of_lt hlt)]
    exact Heap.get?_push_of_some _ q
  · have hlt := Heap.lt_size hcc
    exact Nat.le_of_lt (Nat.lt_of_le_of_lt k.size hlt)
/-- a list's or a tuple's items -/
theorem collect_seq {l : Addr} {T : String} {o : Obj} {items : Array Value} {n : Nat} {Q : List Value → Shared → Prop} (hT : T = "list" ∨ T = "tuple") (ho : s.heap.get? l = some o) (hcl : o.cls = .type T) (hd : o.data = .seq items n) (hz : items.size ≤ sizeLine)
    (h : ∀ s1, Grew s s1 → Q items.toList s1) : wpAny (model prog w) A (collect (.ref l)) Q EE s := by
  unfold collect
  refine wpAny_bind (wpAny_runValue (codeAny_builtin F.entry_proto_collect ?_))
  rw [Around.under_plainId F.plain_proto_collect _]
  show wpAny _ A.in1 (newList [] >>= fun l0 => again (.builtin "list.__iadd__" ⟨[l0, .ref l], []⟩)) _ _ s
  refine wpAny_bind (wpAny_newObj_type ?_)
  refine wpAny_pure ⟨plainId_quiet F.plain_list_iadd _, codeAny_builtin F.entry_list_iadd ?_⟩
  rw [Around.under_plainId F.plain_list_iadd _]
  have hS : (s.heap.push { cls := .type "list", data := .seq ([] : List Value).toArray }).get? s.heap.objs.size = some { cls := .type "list", data := .seq #[] 0 } := Heap.get?_push_size _ rfl
  have hfin : ∀ (u : Value) , wpAny (model prog w) A (do
      let o ← load s.heap.objs.size
      match o.data with
      | .seq xs _ => pure xs.toList
      | _ => unsupported "internal:collect") Q EE { s with heap := (s.heap.push { cls := .type "list", data := .seq ([] : List Value).toArray }).update s.heap.objs.size (Obj.mapSeq (· ++ items)) } := fun _ => by
    refine wpAny_bind (wpAny_load (get?_update_seq hS _) ?_)
    show wpAny _ _ (pure ((#[] : Array Value) ++ items).toList) Q EE _
    rw [show ((#[] : Array Value) ++ items).toList = items.toList by simp]
    refine wpAny_pure (h _ ⟨fun b u e => ?_, rfl, rfl, ?_⟩)
    · show ((s.heap.push _).update s.heap.objs.size _).get? b = some u
      rw [Heap.get?_update_ne _ _ _ _ (Nat.ne_of_lt (Heap.lt_size e))]
      exact Heap.get?_push_of_some _ e
    · show s.heap.objs.size ≤ ((s.heap.push _).update s.heap.objs.size _).objs.size
      rw [Heap.size_update, size_push']
      exact Nat.le_succ _
  refine wpAny_mono (wpAny_extend_seq (A := A) (R := fun rr s' => rr = .ok (.ret (.ref s.heap.objs.size)) ∧ s' = { s with heap := (s.heap.push { cls := .type "list", data := .seq ([] : List Value).toArray }).update s.heap.objs.size (Obj.mapSeq (· ++ items)) })
    (s := { s with heap := s.heap.push { cls := .type "list", data := .seq ([] : List Value).toArray } }) s.heap.objs.size l (.ref s.heap.objs.size) 0 hT hS (Heap.get?_push_of_some _ ho) hcl hd ⟨rfl, rfl⟩ hz) (fun fin s' q => ?_) (fun e s' q => ?_)
  · cases fin with
    | done f =>
      obtain ⟨e, e2⟩ := q
      cases e
      rw [e2]
      exact hfin .none
    | again c' =>
      refine ⟨q.1, codeAny_mono q.2 fun rr s'' hr' => ?_⟩
      obtain ⟨e1, e2⟩ := hr'
      subst e1
      rw [e2]
      exact hfin .none
  · exact absurd q.1 (by simp)
end
/-! ### in the layer -/
def srtD (ds : List PyData) : List PyData := msF (PySem.W.dataLe false id) ds.length ds
theorem srtD_ms (ds : List PyData) : srtD ds = ds.mergeSort (PySem.W.dataLe false id) := msF_eq _ _ _ (Nat.le_refl _)
def tupOk : PyData → Bool
  | .tuple (_ :: _) => true
  | _ => false
def ntupOk : PyData → Bool
  | .tuple _ => false
  | .none => false
  | _ => true
def tupAny : PyData → Bool
  | .tuple _ => true
  | _ => false
/-- tuples, the first of them empty -/
def mixOk : List PyData → Bool
  | .tuple [] :: ds => ds.all tupAny
  | _ => false
def srtB (ds : List PyData) : Bool := ds.all (fun d => ds.all (PySem.W.alike d)) && (ds.all tupOk || ds.all ntupOk || mixOk ds) && lenOk ds.length && ds.all fun d => Nat.ble d.depth 60
theorem srtB_ok {ds : List PyData} (h : srtB ds = true) : PySem.W.AllAlike ds ∧ Srt ds ∧ ds.length ≤ sizeLine ∧ ∀ d ∈ ds, d.depth ≤ 60 := by
  unfold srtB at h
  rw [Bool.and_eq_true, Bool.and_eq_true, Bool.and_eq_true, Bool.or_eq_true, Bool.or_eq_true] at h
  obtain ⟨⟨⟨h1, h2⟩, h3⟩, h4⟩ := h
  refine ⟨fun d hd d' hd' => List.all_eq_true.mp (List.all_eq_true.mp h1 d hd) d' hd', ?_, lenOk_iff.mp h3, fun d hd => Nat.le_of_ble_eq_true (List.all_eq_true.mp h4 d hd)⟩
  rcases h2 with (h2 | h2) | h2
  · refine .inl (.inl fun d hd => ?_)
    have q := List.all_eq_true.mp h2 d hd
    unfold tupOk at q
    split at q
    · exact ⟨_, _, rfl⟩
    · cases q
  · refine .inl (.inr fun d hd => ?_)
    have q := List.all_eq_true.mp h2 d hd
    unfold ntupOk at q
    split at q
    · cases q
    · cases q
    · rename_i n1 n2
      exact ⟨n2, n1⟩
  · unfold mixOk at h2
    split at h2
    · rename_i r
      refine .inr ⟨r, rfl, fun d hd => ?_⟩
      have q := List.all_eq_true.mp h2 d hd
      unfold tupAny at q
      split at q
      · exact ⟨_, rfl⟩
      · cases q
    · cases h2
mutual
theorem alike_nd : ∀ d : PyData, PySem.W.alike d d = true → noDic d = true
  | .none, _ => rfl
  | .bool _, _ => rfl
  | .int _, _ => rfl
  | .str _, _ => rfl
  | .list xs, h => by
    rw [PySem.W.alike] at h
    rw [nd_list]
    exact alikeA_nd xs h
  | .tuple xs, h => by
    rw [PySem.W.alike] at h
    rw [nd_tup]
    exact alikeA_nd xs h
  | .dict _, h => by simp [PySem.W.alike] at h
theorem alikeA_nd : ∀ ds : List PyData, PySem.W.alikeAll ds ds = true → noDics ds = true
  | [], _ => rfl
  | d :: ds, h => by
    rw [PySem.W.alikeAll, Bool.and_eq_true] at h
    rw [nd_cons, alike_nd d h.1, alikeA_nd ds h.2]
    rfl
end
section
variable {PX : Exn → Prop} {X : Cx} {E : Ent} {K : PySem.W.Frag} {F H : Hp} {e : Expr} {p pos : Pos} {ha : FTA} {k : Nat}
/-- sorted(xs), xs a list or a tuple of data -/
def rSortD (K : PySem.W.Frag) : List V → Hp → VK → Prop := fun vs H Q => ∃ (a : Addr) (xs : List V) (ds : List PyData) (P : V → PyData → Prop), vs = [.ref a] ∧ (SqL K H a xs ∨ SqT K H a xs) ∧ Paired P xs ds ∧ (∀ v, ∀ d ∈ ds, P v d → Dp K H v d) ∧ srtB ds = true ∧
  ∀ (ys : List V) (q : Addr), Paired P ys (srtD ds) → H q = none → Q (.ref q) (upd H q (.lst ys))
theorem each_of_pair {P : V → PyData → Prop} : ∀ {xs : List V} {us : List Value} {ds : List PyData}, Vals xs us → Paired P xs ds → PySem.W.EachIs (fun u d => d ∈ ds ∧ ∃ v, RelV v u ∧ P v d) us ds
  | _, _, _, .nil, .nil => .nil
  | _, _, _, .cons r t, .cons q u => .cons ⟨List.mem_cons_self .., _, r, q⟩ ((each_of_pair t u).mono fun _ _ h => ⟨List.mem_cons_of_mem _ h.1, h.2⟩)
theorem pair_of_each {P : V → PyData → Prop} {S : PyData → Prop} : ∀ {us : List Value} {ds : List PyData}, PySem.W.EachIs (fun u d => S d ∧ ∃ v, RelV v u ∧ P v d) us ds → ∃ xs, Vals xs us ∧ Paired P xs ds
  | _, _, .nil => ⟨[], .nil, .nil⟩
  | _, _, .cons ⟨_, v, r, q⟩ t => by
    obtain ⟨xs, a, b⟩ := pair_of_each t
    exact ⟨v :: xs, .cons r a, .cons q b⟩
theorem Inv.grew {pins : List (Addr × Obj)} {σ : L2.St} {s s2 : Shared} {q : Addr} {ys : List V} {out : List Value} {c : Nat} (I : Inv X pins σ H s) (g : Grew s s2) (hq : s.heap.objs.size ≤ q) (hg : s2.heap.get? q = some (seqObj "list" out.toArray c)) (hv : Vals ys out) (hl : ys.length ≤ sizeLine) :
    Inv X pins σ (upd H q (.lst ys)) s2 ∧ H q = none := by
  have hn : H q = none := I.hok.fresh hq
  have J : Inv X pins σ (upd H q (.lst ys)) { s with heap := s2.heap, gens := s2.gens, drawn := s2.drawn, toks := s2.toks } :=
    I.call (ch := []) (Un.laid g.kept hq hn) (I.hok.laid g.kept hq ⟨hl, out, c, hv, hg⟩) (by rw [g.gens]; exact I.bare) (fun _ z => nomatch z)
  have e : s2 = { s with heap := s2.heap, gens := s2.gens, drawn := s2.drawn, toks := s2.toks } := by
    have o := g.os
    cases s2
    cases s
    cases o
    rfl
  rw [e]
  exact ⟨J, hn⟩
theorem cr_sortD (hu : X.A.units + 66 < cLine) : CallR X (.builtin "sorted") (rSortD X.K) := by
  intro pins s σ H vs us Q I r h
  obtain ⟨a, xs, ds, P, rfl, hs, hp, hd, hb, q⟩ := h
  obtain ⟨h1, h2, h3, h4⟩ := srtB_ok hb
  rw [Vals.ref1 r]
  have fin : ∀ (its : List Value), Vals xs its → (∀ (Q' : List Value → Shared → Prop) (E' : Value → Shared → Prop), (∀ s1, Grew s s1 → Q' its s1) → wpAny (model X.prog X.w) X.A.in1 (collect (.ref a)) Q' E' s) → wpAny (model X.prog X.w) X.A (call (.builtin "sorted") [.ref a]) (EP X pins σ Q) X.xe s := by
    intro its rv hc
    refine sorted_coll (R := fun u d => d ∈ ds ∧ ∃ v, RelV v u ∧ P v d) (G := fun us' ds' => ds' = ds ∧ PySem.W.EachIs (fun u d => d ∈ ds ∧ ∃ v, RelV v u ∧ P v d) us' ds) ?_ ?_ ?_ ?_
    · intro u d ⟨hm, v, rr, pp⟩
      exact Dp.reads I d v u (hd v d hm pp) rr
    · intro vs' ds' ⟨e1, e2⟩
      subst e1
      exact ⟨e2, h1, h2, h3, fun d hm => by have := h4 d hm; omega⟩
    · intro Q' E' k
      exact hc Q' E' fun s1 g => k its ds s1 ⟨rfl, each_of_pair rv hp⟩ g
    · intro vs' ds' out c q0 s2 ⟨e1, e2⟩ g hq hget ho
      subst e1
      obtain ⟨ys, y1, y2⟩ := pair_of_each ho
      have ly : ys.length ≤ sizeLine := by
        rw [Paired.length y2]
        show (ds'.mergeSort _).length ≤ _
        rw [List.length_mergeSort]
        exact h3
      obtain ⟨J, hn⟩ := Inv.grew I g hq hget y1 ly
      exact ⟨.ref q0, _, J, rfl, q ys q0 (by rw [srtD_ms]; exact y2) hn⟩
  rcases hs with hs | hs
  · obtain ⟨its, rv, ⟨o, n, ho, hcl, _, hdt⟩, hz⟩ := I.list hs
    exact fin its rv fun Q' E' k => collect_seq (.inl rfl) ho hcl hdt (by simp only [List.size_toArray]; rw [← rv.length]; exact hz) fun s1 g => by simpa using k s1 g
  · obtain ⟨its, rv, ⟨o, ho, hcl, n, hdt⟩, hz⟩ := I.tuple hs
    exact fin its rv fun Q' E' k => collect_seq (.inr rfl) ho hcl hdt (by simp only [List.size_toArray]; rw [← rv.length]; exact hz) fun s1 g => by simpa using k s1 g
def bSorted (as zs : List PyData) : Prop := ∃ ds, (as = [.list ds] ∨ as = [.tuple ds]) ∧ srtB ds = true ∧ zs = srtD ds
def biSorted : Bi
  | [.list xs] => onee (srtB xs) (some (.n (.list (srtD xs))))
  | [.tuple xs] => onee (srtB xs) (some (.n (.list (srtD xs))))
  | _ => none
theorem biSorted_l (xs : List PyData) : biSorted [.list xs] = onee (srtB xs) (some (.n (.list (srtD xs)))) := rfl2 rfl
theorem biSorted_t (xs : List PyData) : biSorted [.tuple xs] = onee (srtB xs) (some (.n (.list (srtD xs)))) := rfl2 rfl
theorem pair_of_rps {vs : List V} {ds : List PyData} (h : Rps K F vs ds) : Paired (Rp K F) vs ds := by
  induction ds generalizing vs with
  | nil => cases h; exact .nil
  | cons d ds ih => cases h with
    | cons a b => exact .cons a (ih b)
theorem rps_of_pair {vs : List V} {ds : List PyData} (h : Paired (Rp K F) vs ds) : Rps K F vs ds := by
  induction h with
  | nil => exact .nil
  | cons a _ ih => exact .cons a ih
theorem qe_sorted (hr : Room k X.A) (hg : Gl X "sorted") (hm : X.mg "sorted" = none) (h : FA PX E X [e] ha) (he : starEach [e] X.env = (false, eval e X.env) :: starEach [] X.env := by rfl) (hpl : (backTo pos (starEach [] X.env)).any (·.1) = false := by rfl) :
    FE PX E X (.Call (.Name "sorted" p) [e] [] pos) (qB biSorted ha) := by
  refine qe_biL (B := bSorted) (de_callL (pe_callB (cr_sortD (Room.u66 hr)) hg hm (by decide +kernel) h (by decide) (by decide) he hpl) ?_) ?_
  · intro F H vs xs zs Q g rv ⟨ds, e, hb, ez⟩ hy
    subst ez
    obtain ⟨h1, h2, h3, h4⟩ := srtB_ok hb
    have nd : ∀ d ∈ ds, noDic d = true := fun d hd => alike_nd d (h1 d hd d hd)
    rcases e with e | e
    · subst e
      cases rv with
      | cons rx t =>
        cases t
        obtain ⟨q, ws, ev, hs, rs⟩ := rx.seq g
        subst ev
        exact ⟨q, ws, ds, Rp X.K F, rfl, .inl hs, pair_of_rps rs, fun v d hd hp => toDp g hp (nd d hd), hb, fun ys l hys hl => hy l ys hl (rps_of_pair hys)⟩
    · subst e
      cases rv with
      | cons rx t =>
        cases t
        obtain ⟨q, ws, ev, hs, rs⟩ := rx.tup g
        subst ev
        exact ⟨q, ws, ds, Rp X.K F, rfl, .inr hs, pair_of_rps rs, fun v d hd hp => toDp g hp (nd d hd), hb, fun ys l hys hl => hy l ys hl (rps_of_pair hys)⟩
  · intro xs w h
    unfold biSorted at h
    split at h
    · obtain ⟨h1, h2⟩ := onee_some h
      cases h2
      exact ⟨_, rfl, _, .inl rfl, h1, rfl⟩
    · obtain ⟨h1, h2⟩ := onee_some h
      cases h2
      exact ⟨_, rfl, _, .inr rfl, h1, rfl⟩
    · cases h
end
end DL
set_option Elab.async false
set_option linter.all false
set_option autoImplicit false
set_option maxRecDepth 100000
set_option maxHeartbeats 4000000
/-! FLi: pop, extend, index. -/
namespace DL
open PySem PySem.Spec PyProof.Rows L2 Out
section
variable {PX : Exn → Prop} {X : Cx} {E : Ent} {K : PySem.W.Frag} {F H : Hp} {e : Expr} {pos : Pos} {ga : DTF} {gq : FTF} {fa : DT} {fq : FT} {i : Nat} {st : St} {r : DEnv}
/-! ### x.pop(), x.pop(k) as values; x the name in slot i -/
def dPop (i : Nat) (r : DEnv) (P : Vl → DEnv → Prop) : Prop := ∃ xs t y, r[i]? = some (some t) ∧ Sl.mu t = true ∧ t.it = .list xs ∧ xs[xs.length - 1]? = some y ∧ P (.d y) (setC r i (.list xs.dropLast))
theorem rps_dropLast {vs : List V} {ds : List PyData} (h : Rps K F vs ds) : Rps K F vs.dropLast ds.dropLast := by
  rw [List.dropLast_eq_take, List.dropLast_eq_take, rps_len h]
  exact rps_take _ h
theorem rps_erase : ∀ (n : Nat) {vs : List V} {ds : List PyData}, Rps K F vs ds → Rps K F (vs.eraseIdx n) (ds.eraseIdx n)
  | _, _, _, .nil => by simp; exact .nil
  | 0, _, _, .cons _ t => t
  | n + 1, _, _, .cons h t => .cons h (rps_erase n t)
theorem de_pop {i : Nat} (h : PE X e (tBM0 X.K "list" rPop (tVar i))) : DE E X e (dPop i) := by
  refine wkE h fun st H Q ⟨F, r, P, R, ⟨xs, t, y, e1, m1, it, hy, q1⟩, k⟩ => ?_
  obtain ⟨q, e2, z⟩ := R.mu_at e1 m1
  rw [it] at z
  obtain ⟨us, f1, h1, rs⟩ := ob_list z
  have hy' := hy
  rw [← rps_len rs] at hy'
  obtain ⟨v, hv, rv⟩ := rps_at rs (by rw [rps_len rs] at hy'; exact hy')
  refine ⟨_, e2, .inl ⟨rfl, _, SqL.of h1⟩, q, us, v, rfl, rfl, h1, by rw [rps_len rs]; exact hv, ?_⟩
  have B := R.wrt (o := .lst us.dropLast) e1 m1 e2 (y := .list xs.dropLast) ⟨_, f1, upd_same, rps_dropLast rs⟩
  exact k _ _ _ _ _ q1 B rv trivial
def dPopAt (i : Nat) (ga : DTF) (r : DEnv) (P : Vl → DEnv → Prop) : Prop := (∃ xs, slotD r i = some (.list xs)) ∧ ga r fun ys r1 => ∃ k j y xs t, ys = [.int k] ∧ -(2 ^ 63) ≤ k ∧ k < 2 ^ 63 ∧ r1[i]? = some (some t) ∧ Sl.mu t = true ∧ t.it = .list xs ∧ ixN xs.length k = some j ∧ xs[j]? = some y ∧ P (.d y) (setC r1 i (.list (xs.eraseIdx j)))
theorem de_popAt {i : Nat} (h : PE X e (tBM X.K "list" rPopAt (tVar i) (tDF X.K E ga))) : DE E X e (dPopAt i ga) := by
  refine wkE h fun st H Q ⟨F, r, P, R, p, kk⟩ => ?_
  obtain ⟨⟨xs0, e0⟩, p⟩ := p
  obtain ⟨v, ev, rv⟩ := slot_read R e0
  obtain ⟨q, vs, ev2, hq, _⟩ := rv.seq R.sub
  subst ev2
  refine ⟨_, ev, .inl ⟨rfl, _, hq⟩, F, r, _, R, p, ?_⟩
  rintro ys r1 ws F1 H1 ⟨k, j, y, xs, t, ey, b1, b2, e1, m1, it, hj, hy, q1⟩ A1 ok
  subst ey
  cases ok with
  | cons ok nn =>
    cases nn
    cases ok
    obtain ⟨q', e2, z⟩ := A1.rel.mu_at e1 m1
    rw [ev] at e2
    cases e2
    rw [it] at z
    obtain ⟨us, f1, h1, rs⟩ := ob_list z
    obtain ⟨v, hv, rv⟩ := rps_at rs hy
    refine ⟨q, us, k, j, v, rfl, rfl, h1, b1, b2, by rw [rps_len rs]; exact (ixN_seq hj).1, hv, ?_⟩
    have B := A1.rel.wrt (o := .lst (us.eraseIdx j)) e1 m1 ev (y := .list (xs.eraseIdx j)) ⟨_, f1, upd_same, rps_erase j rs⟩
    exact kk _ _ _ _ _ q1 (A1.trans B) (rpM B.stp.gf rv) trivial
def popK2 (i : Nat) (r : DEnv) (xs : List PyData) (y : PyData) : Out (Vl × DEnv) := .ok (.d y, setC r i (.list xs.dropLast))
def popK1 (i : Nat) (r : DEnv) (xs : List PyData) : Out (Vl × DEnv) := opt xs[xs.length - 1]? (popK2 i r xs)
def qPop (i : Nat) (r : DEnv) : Out (Vl × DEnv) := opt (agSl r[i]?) (popK1 i r)
theorem popK2_eq (i : Nat) (r : DEnv) (xs : List PyData) (y : PyData) : popK2 i r xs y = .ok (.d y, setC r i (.list xs.dropLast)) := rfl2 rfl
theorem popK1_eq (i : Nat) (r : DEnv) (xs : List PyData) : popK1 i r xs = opt xs[xs.length - 1]? (popK2 i r xs) := rfl2 rfl
theorem qPop_eq (i : Nat) (r : DEnv) : qPop i r = opt (agSl r[i]?) (popK1 i r) := rfl2 rfl
theorem qe_pop (h : PE X e (tBM0 X.K "list" rPop (tVar i))) : FE PX E X e (qPop i) := fe_of (de_pop h) fun r P p => by
  unfold ofT qPop at p
  obtain ⟨xs, e1, p⟩ := wp2_opt p
  obtain ⟨s, es, ms, it⟩ := agSl_some e1
  unfold popK1 at p
  obtain ⟨y, e2, p⟩ := wp2_opt p
  exact ⟨xs, s, y, es, ms, it, e2, p⟩
def popA4 (i : Nat) (r : DEnv) (xs : List PyData) (j : Nat) (y : PyData) : Out (Vl × DEnv) := .ok (.d y, setC r i (.list (xs.eraseIdx j)))
def popA3 (i : Nat) (r : DEnv) (xs : List PyData) (j : Nat) : Out (Vl × DEnv) := opt xs[j]? (popA4 i r xs j)
def popA2 (i : Nat) (k : Int) (r : DEnv) (xs : List PyData) : Out (Vl × DEnv) := need (rngB k) (opt (ixN xs.length k) (popA3 i r xs))
def popA1 (i : Nat) (ys : List PyData) (r : DEnv) : Out (Vl × DEnv) := match ys with
  | [.int k] => opt (agSl r[i]?) (popA2 i k r)
  | _ => .bad
def popA0 (i : Nat) (ga : FTF) (r : DEnv) (_ : List PyData) : Out (Vl × DEnv) := bind2 (ga r) (popA1 i)
def qPopAt (i : Nat) (ga : FTF) (r : DEnv) : Out (Vl × DEnv) := opt (agSl r[i]?) (popA0 i ga r)
theorem popA4_eq (i : Nat) (r : DEnv) (xs : List PyData) (j : Nat) (y : PyData) : popA4 i r xs j y = .ok (.d y, setC r i (.list (xs.eraseIdx j))) := rfl2 rfl
theorem popA3_eq (i : Nat) (r : DEnv) (xs : List PyData) (j : Nat) : popA3 i r xs j = opt xs[j]? (popA4 i r xs j) := rfl2 rfl
theorem popA2_eq (i : Nat) (k : Int) (r : DEnv) (xs : List PyData) : popA2 i k r xs = need (rngB k) (opt (ixN xs.length k) (popA3 i r xs)) := rfl2 rfl
theorem popA1_eq (i : Nat) (k : Int) (r : DEnv) : popA1 i [.int k] r = opt (agSl r[i]?) (popA2 i k r) := rfl2 rfl
theorem popA0_eq (i : Nat) (ga : FTF) (r : DEnv) (xs : List PyData) : popA0 i ga r xs = bind2 (ga r) (popA1 i) := rfl2 rfl
theorem qPopAt_eq (i : Nat) (ga : FTF) (r : DEnv) : qPopAt i ga r = opt (agSl r[i]?) (popA0 i ga r) := rfl2 rfl
theorem slotD_of {s : Sl} {x : PyData} (e : r[i]? = some (some s)) (h : s.it = x) : slotD r i = some x := by
  unfold slotD
  rw [e]
  exact congrArg some h
theorem qe_popAt (h : PE X e (tBM X.K "list" rPopAt (tVar i) (tDF X.K E (ofT PX gq)))) : FE PX E X e (qPopAt i gq) := fe_of (de_popAt h) fun r P p => by
  unfold ofT qPopAt at p
  obtain ⟨xs0, e0, p⟩ := wp2_opt p
  obtain ⟨s, es, ms, it⟩ := agSl_some e0
  refine ⟨⟨xs0, slotD_of es it⟩, ?_⟩
  unfold popA0 at p
  refine wp2_mono (wp2_bind2 p) fun ys r1 q => ?_
  unfold popA1 at q
  split at q
  · obtain ⟨xs, e1, q⟩ := wp2_opt q
    obtain ⟨s1, es1, ms1, it1⟩ := agSl_some e1
    unfold popA2 at q
    obtain ⟨hb, q⟩ := wp2_need q
    have hb := of_decide_eq_true hb
    obtain ⟨j, ej, q⟩ := wp2_opt q
    unfold popA3 at q
    obtain ⟨y, ey, q⟩ := wp2_opt q
    exact ⟨_, j, y, xs, s1, rfl, by omega, by omega, es1, ms1, it1, ej, ey, q⟩
  · exact q.elim
/-! ### x.extend(e), e a list that stays -/
theorem list_extend_plain (l : Addr) (us : Array Value) (n : Nat) (b : Addr) (ws : Array Value) (m : Nat) (dd : Option Addr) (sls : Array (Option Value)) (long : ¬(!us.isEmpty && Builtin.List.listTooLong (us.size + ws.size)) = true) (z1 : us.size ≤ sizeLine) (z2 : us.size + ws.size ≤ sizeLine + 1) :
    Meets (Builtin.«list.extend» ⟨[.ref l, .ref b], []⟩) (fun _ R s => s.heap.get? l = some { cls := .type "list", dict := none, data := .seq us n, slots := #[] } ∧ s.heap.get? b = some { cls := .type "list", dict := dd, data := .seq ws m, slots := sls } ∧
      R (.ok (.ret .none)) { s with heap := s.heap.update l (Obj.mapSeq fun x => x ++ ws), toks := s.toks }) :=
  .of_wp fun prog w A R ⟨hp, g, d, tk, os⟩ ⟨hl, hb, h⟩ => by
    have f1 := AutoSeq1.idx_int; have f2 := AutoSeq1.sub_tuple_tuple; have f3 := AutoSeq1.sub_list_list
    have f4 := AutoSeq1.sub_tuple_list; have f5 := AutoSeq1.sub_list_tuple; have z3 : (us ++ ws).size ≤ sizeLine + 1 := by rw [Array.size_append]; exact z2
    wp_walk using (wpAny_updateSeq hl rfl (hz := z1) (_hz' := z3)), AutoSeq1.wpAny_loadPart' hl, AutoSeq1.wpAny_loadPart' hb; exact ⟨_, rfl, h⟩
def rExtQ (K : PySem.W.Frag) : V → List V → Hp → VK → Prop := fun x vs H Q => ∃ l b xs zs, x = .ref l ∧ vs = [.ref b] ∧ H l = some (.lst xs) ∧ SqL K H b zs ∧ xs.length + zs.length ≤ sizeLine ∧ Q .non (upd H l (.lst (xs ++ zs)))
theorem mt_extQ : MtM X "list.extend" (rExtQ X.K) := by
  intro pins s σ H x vs v us Q I rx rv ⟨l, b, xs, zs, ex, ev, hH, hB, hz, q⟩
  subst ex
  subst ev
  cases rx
  obtain ⟨u, eu, ru⟩ := rv.one
  subst eu
  cases ru
  obtain ⟨z, its, n, r, hl, e⟩ := I.lstM hH
  obtain ⟨its2, r2, ⟨⟨cls, dd, data, sls⟩, n2, e2, hc, _, hdt⟩, z2⟩ := I.list hB
  simp only at hc hdt
  subst hc hdt
  have l2 := r2.length
  have hsz : its.toArray.size + its2.toArray.size ≤ sizeLine := by rw [List.size_toArray, List.size_toArray]; omega
  have hlong : ¬ (!its.toArray.isEmpty && Builtin.List.listTooLong (its.toArray.size + its2.toArray.size)) = true := by rw [notLongL hsz, Bool.and_false]; exact Bool.false_ne_true
  refine call_meets F.slot_list_extend ⟨_, e, rfl⟩ F.entry_list_extend (F.args_list_extend_2 _ _) (list_extend_plain l its.toArray n b its2.toArray n2 dd sls hlong (by rw [List.size_toArray]; omega) (by omega)) ⟨e, e2, ?_⟩
  exact ⟨.non, _, I.lset (its' := its ++ its2) hH e (by simp) (r.append r2) (by rw [List.length_append]; omega), rfl, q⟩
def sExt (i : Nat) (fa : DT) (P : DEnds) (r : DEnv) : Prop := (∃ xs, slotD r i = some (.list xs)) ∧ fa r fun s r1 => ∃ zs xs t, s = .d (.list zs) ∧ r1[i]? = some (some t) ∧ Sl.mu t = true ∧ t.it = .list xs ∧ xs.length + zs.length ≤ sizeLine ∧ P.nx (setC r1 i (.list (xs ++ zs)))
theorem ds_ext {i : Nat} {ga : DTF} (h : PS X (.Expr e pos) (tDrop (tBM X.K "list" (rExtQ X.K) (tVar i) (tDF X.K E ga)))) : DS E X (.Expr e pos) (fun P r => (∃ xs, slotD r i = some (.list xs)) ∧ ga r fun ys r1 => ∃ zs xs t, ys = [.list zs] ∧ r1[i]? = some (some t) ∧ Sl.mu t = true ∧ t.it = .list xs ∧ xs.length + zs.length ≤ sizeLine ∧ P.nx (setC r1 i (.list (xs ++ zs)))) := by
  refine wkS h fun D st H ⟨F, r, P, R, ⟨⟨xs0, e0⟩, p⟩, k⟩ => ?_
  obtain ⟨v, ev, rv⟩ := slot_read R e0
  obtain ⟨q, vs, ev2, hq, _⟩ := rv.seq R.sub
  subst ev2
  refine ⟨_, ev, .inl ⟨rfl, _, hq⟩, F, r, _, R, p, ?_⟩
  rintro ys r1 ws F1 H1 ⟨zs, xs, t, ey, e1, m1, it, hl, q1⟩ A1 ok
  subst ey
  cases ok with
  | cons ok nn =>
    cases nn
    obtain ⟨q', e2, z⟩ := A1.rel.mu_at e1 m1
    rw [ev] at e2
    cases e2
    rw [it] at z
    obtain ⟨us, f1, h1, rs⟩ := ob_list z
    cases ok with
    | lst sq rz =>
      refine ⟨q, _, us, _, rfl, rfl, h1, A1.rel.sub.seq sq, by rw [rps_len rs, rps_len rz]; exact hl, ?_⟩
      have B := A1.rel.wrt (o := .lst (us ++ _)) e1 m1 ev (y := .list (xs ++ zs)) ⟨_, f1, upd_same, rps_app rs rz⟩
      exact k.nx _ _ _ _ q1 B.rel (A1.stp.gf.trans B.stp.gf)
def extK3 (i : Nat) (zs : List PyData) (r : DEnv) (xs : List PyData) : Out Fl := need (lenOk (xs.length + zs.length)) (.ok (.nx (setC r i (.list (xs ++ zs)))))
def extK2 (i : Nat) (ys : List PyData) (r : DEnv) : Out Fl := match ys with
  | [.list zs] => opt (agSl r[i]?) (extK3 i zs r)
  | _ => .bad
def extK1 (i : Nat) (gq : FTF) (r : DEnv) (_ : List PyData) : Out Fl := bind2 (gq r) (extK2 i)
def qsExt (i : Nat) (gq : FTF) (r : DEnv) : Out Fl := opt (agSl r[i]?) (extK1 i gq r)
theorem extK3_eq (i : Nat) (zs : List PyData) (r : DEnv) (xs : List PyData) : extK3 i zs r xs = need (lenOk (xs.length + zs.length)) (.ok (.nx (setC r i (.list (xs ++ zs))))) := rfl2 rfl
theorem extK2_eq (i : Nat) (zs : List PyData) (r : DEnv) : extK2 i [.list zs] r = opt (agSl r[i]?) (extK3 i zs r) := rfl2 rfl
theorem extK1_eq (i : Nat) (gq : FTF) (r : DEnv) (xs : List PyData) : extK1 i gq r xs = bind2 (gq r) (extK2 i) := rfl2 rfl
theorem qsExt_eq (i : Nat) (gq : FTF) (r : DEnv) : qsExt i gq r = opt (agSl r[i]?) (extK1 i gq r) := rfl2 rfl
theorem qs_ext {i : Nat} (h : PS X (.Expr e pos) (tDrop (tBM X.K "list" (rExtQ X.K) (tVar i) (tDF X.K E (ofT PX gq))))) : FSt PX E X (.Expr e pos) (qsExt i gq) := fs_of (ds_ext h) fun P r p => by
  unfold ofS qsExt at p
  obtain ⟨xs0, e0, p⟩ := wp_opt p
  obtain ⟨s, es, ms, it⟩ := agSl_some e0
  refine ⟨⟨xs0, slotD_of es it⟩, ?_⟩
  unfold extK1 at p
  refine wp2_mono (wp_bind2 p) fun ys r1 q => ?_
  unfold extK2 at q
  split at q
  · obtain ⟨xs, e1, q⟩ := wp_opt q
    obtain ⟨s1, es1, ms1, it1⟩ := agSl_some e1
    unfold extK3 at q
    obtain ⟨hz, q⟩ := wp_need q
    exact ⟨_, xs, s1, rfl, es1, ms1, it1, lenOk_iff.mp hz, q⟩
  · exact q.elim
/-! ### x.index(e) -/
def dIndex (i : Nat) (ga : DTF) (r : DEnv) (P : Vl → DEnv → Prop) : Prop := (∃ xs, slotD r i = some (.list xs)) ∧ ga r fun ys r1 => ∃ d ds j z, ys = [d] ∧ slotD r1 i = some (.list ds) ∧ okE (.list ds) = true ∧ okE d = true ∧ ds[j]? = some z ∧ PyData.eqv z d = true ∧ (∀ (m : Nat) (z' : PyData), m < j → ds[m]? = some z' → PyData.eqv z' d = false) ∧ P (.d (.int (j : Nat))) r1
end
end DL
set_option Elab.async false
set_option linter.all false
set_option autoImplicit false
set_option maxRecDepth 100000
set_option maxHeartbeats 4000000
/-! FLj: defs as values, called by a name of the frame. -/
namespace DL
open PySem PySem.Spec PyProof.Rows L2 Out
/-- the def that the name x has in the module -/
def NamK (K : PySem.W.Frag) (mg : Str → Option Value) (x : Str) : Prop := ∃ a, PySem.W.nsIn K mainGlobals x = some (some (.ref a)) ∧ mg x = some (.ref a)
section
variable {PX : Exn → Prop} {X : Cx} {E : Ent} {K : PySem.W.Frag} {F H : Hp} {e : Expr} {es : List Expr} {p pos : Pos} {ha : FTA} {k i n : Nat} {x : Str} {r : DEnv}
theorem qe_fnv (N : NamK X.K X.mg x) (hg : Gl X x) (hdb : (x == ("__debug__" : Str)) = false := by decide) : FE PX E X (.Name x pos) (qC (fnV x)) := by
  obtain ⟨a, h1, h2⟩ := N
  exact qe_c (pe_glob (v := .ref a) hg h2 rfl hdb) fun F => .fn h1
theorem pe_callLG {f : Addr} {fd : FuncData} {ps : List Str} {sp : Sp} {EX : XK} {t : TA} (G : FnG X.prog X.w X.K X.mg X.base k f fd ps sp) (hr : Room k X.A) (hgu : X.A.guards = some []) (hN : X.N[i]? = some x) (hv : Vis X.env.scope x) (hk : PySem.W.keepIn X.K (.ref f) = true)
    (hb : Binds X.K fd ps []) (hx : Passes (L2.CX X.prog X.w) X EX) (ha : PA X (e :: es) t) (hdb : (x == ("__debug__" : Str)) = false := by decide) (hcd : (x == ("__classdict__" : Str)) = false := by decide)
    (he : starEach (e :: es) X.env = (false, eval e X.env) :: starEach es X.env := by rfl) (hpl : (backTo pos (starEach es X.env)).any (·.1) = false := by rfl) :
    PE X (.Call (.Name x p) (e :: es) [] pos) (fun σ H Q => σ[i]? = some (some (.ref f)) ∧ tCall sp [] EX t σ H Q) := by
  refine ⟨fun pins s σ H Q I h => ?_⟩
  refine wpAny_Call_Name_kw (thn ((pe_var (pos := p) hN hv hdb hcd).run pins s σ H (fun v H1 => v = .ref f ∧ H1 = H) I ⟨.ref f, h.1, rfl, rfl⟩) fun u s1 ⟨v, H1, I1, r1, q1⟩ => ?_)
  obtain ⟨e1, e2⟩ := q1
  subst e1
  subst e2
  cases r1
  exact PySem.W.callWith_K (h₀ := X.base) I.ok.mod.kin hk (thn (ha.run pos pins s1 σ _ _ I1 h.2) fun us s2 ⟨vs, H2, I2, r, q⟩ => ⟨I2.kIn, runG G hr hgu hb .nil hx I2 r q⟩) he hpl
def fnN : Option (Option Sl) → Option Str
  | some (some (.d (.dict [(.none, .str n)]))) => some n
  | _ => none
theorem fnN_some {o : Option (Option Sl)} {n : Str} (h : fnN o = some n) : o = some (some (.d (fnV n))) := by
  unfold fnN at h
  split at h
  · cases h; rfl
  · cases h
theorem fnN_eq (n : Str) : fnN (some (some (.d (fnV n)))) = some n := rfl2 rfl
def cvK (n : Nat) (ha : FTA) (r : DEnv) : List (Str × Run) → Str → Out (Vl × DEnv)
  | [], _ => .bad
  | (m, run) :: cs, x => if x = m then qCall n run ha r else cvK n ha r cs x
def qCallV (n i : Nat) (cs : List (Str × Run)) (ha : FTA) (r : DEnv) : Out (Vl × DEnv) := opt (fnN r[i]?) (cvK n ha r cs)
theorem qCallV_eq (n i : Nat) (cs : List (Str × Run)) (ha : FTA) (r : DEnv) : qCallV n i cs ha r = opt (fnN r[i]?) (cvK n ha r cs) := rfl2 rfl
theorem cvK_t (n : Nat) (ha : FTA) (r : DEnv) (m : Str) (run : Run) (cs : List (Str × Run)) : cvK n ha r ((m, run) :: cs) m = qCall n run ha r := if_pos rfl
theorem cvK_f {n : Nat} {ha : FTA} {r : DEnv} {m x : Str} {run : Run} {cs : List (Str × Run)} (h : x ≠ m) : cvK n ha r ((m, run) :: cs) x = cvK n ha r cs x := if_neg h
theorem cvK_in {n : Nat} {ha : FTA} {r : DEnv} {Q : Vl → DEnv → Prop} : ∀ {cs : List (Str × Run)} {x : Str}, (cvK n ha r cs x).wp2 PX Q → ∃ c ∈ cs, c.1 = x ∧ (qCall n c.2 ha r).wp2 PX Q
  | [], _, h => h.elim
  | (m, run) :: cs, x, h => by
    unfold cvK at h
    split at h
    · rename_i e
      exact ⟨_, List.mem_cons_self .., e.symm, h⟩
    · obtain ⟨c, h1, h2⟩ := cvK_in h
      exact ⟨c, List.mem_cons_of_mem _ h1, h2⟩
theorem rp_fn {v : V} {x : Str} (h : Rp K F v (fnV x)) : ∃ a, v = .ref a ∧ PySem.W.nsIn K mainGlobals x = some (some (.ref a)) := by
  unfold fnV at h
  cases h with
  | fn h => exact ⟨_, rfl, h⟩
  | @dik a kvs _ h t =>
    cases kvs with
    | nil => cases t
    | cons q qs =>
      obtain ⟨kk, w⟩ := q
      cases kk <;> cases t
  | @dit a kvs _ h t =>
    cases kvs with
    | nil => cases t
    | cons q qs => cases t
def CandOk (X : Cx) (k n : Nat) (cs : List (Str × Run)) : Prop := ∀ c ∈ cs, (∃ ps, ps.length = n ∧ Cal X.prog X.w X.K X.mg X.base k c.1 ps (SF c.2)) ∧ NamK X.K X.mg c.1
theorem cands_nil : CandOk X k n [] := fun _ h => nomatch h
theorem cands_cons {j : Nat} {m : Str} {ps : List Str} {run : Run} {cs : List (Str × Run)} (C : Cal X.prog X.w X.K X.mg X.base j m ps (SF run)) (N : NamK X.K X.mg m) (t : CandOk X k n cs) (h : j ≤ k := by decide) (hl : ps.length = n := by rfl) : CandOk X k n ((m, run) :: cs) := fun c hc => by
  rcases List.mem_cons.mp hc with e | hc
  · subst e
    exact ⟨⟨ps, hl, C.up h⟩, N⟩
  · exact t c hc
theorem qe_calV {cs : List (Str × Run)} {EX : XK} (C : CandOk X k n cs) (hr : Room k X.A) (hgu : X.A.guards = some []) (hp : Passes (L2.CX X.prog X.w) X EX) (hx : RaisesOk X.K X.mg E PX EX)
    (hN : X.N[i]? = some x) (hv : Vis X.env.scope x) (h : FA PX E X (e :: es) ha) (hdb : (x == ("__debug__" : Str)) = false := by decide) (hcd : (x == ("__classdict__" : Str)) = false := by decide)
    (he : starEach (e :: es) X.env = (false, eval e X.env) :: starEach es X.env := by rfl) (hpl : (backTo pos (starEach es X.env)).any (·.1) = false := by rfl) : FE PX E X (.Call (.Name x p) (e :: es) [] pos) (qCallV n i cs ha) := by
  refine ⟨fun pins s st H Q I hh => ?_⟩
  obtain ⟨F, r, P, R, q, kk⟩ := hh
  unfold ofT qCallV at q
  obtain ⟨nm, e1, q⟩ := wp2_opt q
  obtain ⟨c, hc, e2, q2⟩ := cvK_in q
  obtain ⟨⟨ps, hl, f, fd, G, m, kp, b⟩, a, n1, n2⟩ := C c hc
  subst e2
  obtain ⟨v, ev, rv⟩ := R.dat i _ (fnN_some e1)
  obtain ⟨a', e3, n3⟩ := rp_fn rv
  subst e3
  rw [n1] at n3
  cases n3
  rw [m] at n2
  cases n2
  refine (pe_callLG (i := i) G hr hgu hN hv kp b.1 hp h hdb hcd he hpl).run pins s st H Q I ⟨ev, ?_⟩
  refine call_main (PX := PX) hx (fun _ _ _ q => q.1) ⟨F, r, P, R, ?_, kk⟩
  subst hl
  unfold qCall at q2
  refine wp2_mono (wp2_bind2 q2) fun ss r1 q3 => ?_
  unfold callK1 at q3
  obtain ⟨as, e1, q3⟩ := wp2_opt q3
  unfold callK2 at q3
  obtain ⟨hh, q3⟩ := wp2_need q3
  rw [Bool.and_eq_true] at hh
  exact ⟨as, e1, hh.1, natB_iff.mp hh.2, wp2_mono (wp2_bind2 q3) fun s cs q => q⟩
end
end DL
set_option Elab.async false
set_option linter.all false
set_option autoImplicit false
set_option maxRecDepth 100000
set_option maxHeartbeats 4000000
/-! FLk: dicts: made, read, written. -/
namespace DL
open PySem PySem.Spec PyProof.Rows L2 Out
/-! ### dicts as data -/
def kB : PyData → Bool
  | .int _ => true
  | .str _ => true
  | _ => false
def isTp : PyData → Bool
  | .tuple _ => true
  | _ => false
def keyB : PyData → Bool
  | .int _ => true
  | .str _ => true
  | .tuple xs => xs.all kB
  | _ => false
def dGet : List (PyData × PyData) → PyData → Option PyData
  | [], _ => none
  | q :: ds, x => cond (PyData.eqv q.1 x) (some q.2) (dGet ds x)
def dPut (ds : List (PyData × PyData)) (x y : PyData) : List (PyData × PyData) := cond (dGet ds x).isSome (ds.map fun q => cond (PyData.eqv q.1 x) (q.1, y) q) (ds ++ [(x, y)])
theorem dGet_nil (x : PyData) : dGet [] x = none := rfl2 rfl
theorem dGet_cons (q : PyData × PyData) (ds : List (PyData × PyData)) (x : PyData) : dGet (q :: ds) x = cond (PyData.eqv q.1 x) (some q.2) (dGet ds x) := rfl2 rfl
theorem eqv_is (i : Int) (s : Str) : PyData.eqv (.int i) (.str s) = false := by rw [PyData.eqv]
theorem eqv_si (i : Int) (s : Str) : PyData.eqv (.str s) (.int i) = false := by rw [PyData.eqv]
theorem eqv_it (i : Int) (s : List PyData) : PyData.eqv (.int i) (.tuple s) = false := by rw [PyData.eqv]
theorem eqv_ti (i : Int) (s : List PyData) : PyData.eqv (.tuple s) (.int i) = false := by rw [PyData.eqv]
theorem eqv_st (i : Str) (s : List PyData) : PyData.eqv (.str i) (.tuple s) = false := by rw [PyData.eqv]
theorem eqv_ts (i : Str) (s : List PyData) : PyData.eqv (.tuple s) (.str i) = false := by rw [PyData.eqv]
theorem keyD_eqv : ∀ a b : Key, PyData.eqv (keyD a) (keyD b) = decide (a = b)
  | .inl i, .inl j => by
    show PyData.eqv (.int i) (.int j) = _
    rw [eqv_int]
    by_cases h : i = j
    · subst h; simp
    · rw [decide_eq_false h, decide_eq_false fun z => h (Sum.inl.inj z)]
  | .inr i, .inr j => by
    show PyData.eqv (.str i) (.str j) = _
    rw [eqv_str]
    by_cases h : i = j
    · subst h; simp
    · rw [decide_eq_false fun z => h (Sum.inr.inj z)]
      simpa using h
  | .inl i, .inr j => by
    show PyData.eqv (.int i) (.str j) = _
    rw [eqv_is]; simp
  | .inr i, .inl j => by
    show PyData.eqv (.str i) (.int j) = _
    rw [eqv_si]; simp
theorem keysA_eqv : ∀ a b : List Key, PyData.eqvAll (a.map keyD) (b.map keyD) = decide (a = b)
  | [], [] => by simp [eqvA_nil]
  | [], b :: bs => by simp [eqvA_nc]
  | a :: as, [] => by simp [eqvA_cn]
  | a :: as, b :: bs => by
    rw [List.map_cons, List.map_cons, eqvA_cons, keyD_eqv, keysA_eqv as bs]
    by_cases h : a = b
    · subst h; simp
    · simp [h]
abbrev keysD (ks : List Key) : PyData := .tuple (ks.map keyD)
theorem keysD_eqv (a b : List Key) : PyData.eqv (keysD a) (keysD b) = decide (a = b) := by rw [eqv_tup, keysA_eqv]
section
variable {PX : Exn → Prop} {X : Cx} {E : Ent} {K : PySem.W.Frag} {F H : Hp} {e a b : Expr} {es : List Expr} {p pos : Pos} {k i n : Nat} {x y : PyData} {r : DEnv} {v w : V} {ds : List (PyData × PyData)}
def OptRp (K : PySem.W.Frag) (F : Hp) : Option V → Option PyData → Prop
  | some v, some d => Rp K F v d
  | none, none => True
  | _, _ => False
theorem rpk_get {κ : Type} [DecidableEq κ] {g : κ → PyData} (hg : ∀ a b, PyData.eqv (g a) (g b) = decide (a = b)) : ∀ {kvs : List (κ × V)} {ds : List (PyData × PyData)}, Rpk K F (kvs.map fun q => (g q.1, q.2)) ds → ∀ k, OptRp K F (valV kvs k) (dGet ds (g k))
  | [], _, .nil, k => trivial
  | (a, v) :: kvs, _, .cons h t, k => by
    rw [dGet_cons]
    show OptRp K F _ (cond (PyData.eqv (g a) (g k)) _ _)
    rw [hg]
    by_cases e : a = k
    · rw [valV_pos (p := (a, v)) e, decide_eq_true e]
      exact h
    · rw [valV_neg (p := (a, v)) e, decide_eq_false e]
      exact rpk_get hg t k
theorem rpk_repl {κ : Type} [DecidableEq κ] {g : κ → PyData} (hg : ∀ a b, PyData.eqv (g a) (g b) = decide (a = b)) (k : κ) {u : V} {d : PyData} (hu : Rp K F u d) : ∀ {kvs : List (κ × V)} {ds : List (PyData × PyData)}, Rpk K F (kvs.map fun q => (g q.1, q.2)) ds →
    Rpk K F ((kvs.map fun kv => if kv.1 = k then (kv.1, u) else kv).map fun q => (g q.1, q.2)) (ds.map fun q => cond (PyData.eqv q.1 (g k)) (q.1, d) q)
  | [], _, .nil => .nil
  | (a, v) :: kvs, _, .cons (d := d') h t => by
    rw [List.map_cons, List.map_cons, List.map_cons]
    show Rpk K F ((g (if a = k then (a, u) else (a, v)).1, (if a = k then (a, u) else (a, v)).2) :: _) (cond (PyData.eqv (g a) (g k)) (g a, d) (g a, d') :: _)
    rw [hg]
    by_cases e : a = k
    · rw [if_pos e, decide_eq_true e]
      exact .cons hu (rpk_repl hg k hu t)
    · rw [if_neg e, decide_eq_false e]
      exact .cons h (rpk_repl hg k hu t)
theorem rpk_snoc {q : PyData} {u : V} {d : PyData} (hu : Rp K F u d) : ∀ {xs : List (PyData × V)} {ds : List (PyData × PyData)}, Rpk K F xs ds → Rpk K F (xs ++ [(q, u)]) (ds ++ [(q, d)])
  | _, _, .nil => .cons hu .nil
  | _, _, .cons h t => .cons h (rpk_snoc hu t)
theorem optRp_isSome {o : Option V} {q : Option PyData} (h : OptRp K F o q) : o.isSome = q.isSome := by
  cases o <;> cases q
  · rfl
  · exact h.elim
  · exact h.elim
  · rfl
theorem rpk_put {κ : Type} [DecidableEq κ] {g : κ → PyData} (hg : ∀ a b, PyData.eqv (g a) (g b) = decide (a = b)) (k : κ) {u : V} {d : PyData} (hu : Rp K F u d) {kvs : List (κ × V)} {ds : List (PyData × PyData)} (h : Rpk K F (kvs.map fun q => (g q.1, q.2)) ds) :
    Rpk K F ((putK kvs k u).map fun q => (g q.1, q.2)) (dPut ds (g k) d) := by
  have e := optRp_isSome (rpk_get hg h k)
  unfold putK dPut
  rw [valV_any, e]
  cases (dGet ds (g k)).isSome with
  | true => exact rpk_repl hg k hu h
  | false =>
    show Rpk K F ((kvs ++ [(k, u)]).map _) (ds ++ _)
    rw [List.map_append]
    exact rpk_snoc hu h
theorem rpk_len : ∀ {xs : List (PyData × V)} {ds : List (PyData × PyData)}, Rpk K F xs ds → xs.length = ds.length
  | _, _, .nil => rfl
  | _, _, .cons _ t => congrArg (· + 1) (rpk_len t)
/-- a dict that is read -/
inductive RdD (K : PySem.W.Frag) (F H : Hp) (v : V) (ds : List (PyData × PyData)) : Prop
  | k (a : Addr) (kvs : List (Key × V)) : v = .ref a → Rd H a (.dK kvs) → Rpk K F (dicK kvs) ds → RdD K F H v ds
  | t (a : Addr) (kvs : List (List Key × V)) : v = .ref a → Rd H a (.dT kvs) → Rpk K F (dicT kvs) ds → RdD K F H v ds
  | f (n : Str) : ds = [(.none, .str n)] → RdD K F H v ds
theorem Sub.dic {a : Addr} {o : HO} (g : Sub F H) (h : F a = some o) : Rd H a o := by
  rcases g a o h with z | ⟨_, z⟩
  · exact .inl z
  · exact .inr z
theorem rdv_dict (g : Sub F H) (h : Rdv K F H v (.dict ds)) : RdD K F H v ds := by
  rcases h with h | ⟨q, e, h0, ⟨kvs, h1, h2⟩ | ⟨kvs, h1, h2⟩⟩
  · cases h with
    | dik h1 h2 => exact .k _ _ rfl (g.dic h1) h2
    | dit h1 h2 => exact .t _ _ rfl (g.dic h1) h2
    | fn h1 => exact .f _ rfl
  · exact .k q kvs e (.inl h1) h2
  · exact .t q kvs e (.inl h1) h2
/-- a key that is read -/
inductive RdK (F H : Hp) (w : V) (y : PyData) : Prop
  | k (k : Key) : y = keyD k → w = kV k → RdK F H w y
  | t (ks : List Key) (b : Addr) : y = keysD ks → w = .ref b → F b = some (.tup (ks.map kV)) → RdK F H w y
theorem rps_keys : ∀ {vs : List V} {xs : List PyData}, Rps K F vs xs → xs.all kB = true → ∃ ks : List Key, vs = ks.map kV ∧ xs = ks.map keyD
  | _, _, .nil, _ => ⟨[], rfl, rfl⟩
  | _, _, .cons (d := d) h t, hk => by
    rw [List.all_cons, Bool.and_eq_true] at hk
    obtain ⟨ks, e1, e2⟩ := rps_keys t hk.2
    have h1 := hk.1
    cases h with
    | int i => exact ⟨.inl i :: ks, by rw [List.map_cons, e1]; rfl, by rw [List.map_cons, e2]; rfl⟩
    | str s => exact ⟨.inr s :: ks, by rw [List.map_cons, e1]; rfl, by rw [List.map_cons, e2]; rfl⟩
    | _ => cases h1
theorem rp_key (h : Rp K F w y) (hk : keyB y = true) : RdK F H w y := by
  cases h with
  | int i => exact .k (.inl i) rfl rfl
  | str s => exact .k (.inr s) rfl rfl
  | tup h1 h2 =>
    obtain ⟨ks, e1, e2⟩ := rps_keys h2 hk
    subst e1 e2
    exact .t ks _ rfl rfl h1
  | _ => cases hk
theorem rdv_key (h : Rdv K F H w y) (hk : keyB y = true) : RdK F H w y := by
  rcases h with h | ⟨q, e, z⟩
  · exact rp_key h hk
  · cases y with
    | list xs => cases hk
    | dict ds => cases hk
    | none => exact z.elim
    | bool _ => exact z.elim
    | int _ => exact z.elim
    | str _ => exact z.elim
    | tuple _ => exact z.elim
/-- keys of one kind do not stand in dicts of the other -/
theorem mis_kt (ks : List Key) : ∀ {kvs : List (Key × V)} {ds : List (PyData × PyData)}, Rpk K F (dicK kvs) ds → dGet ds (keysD ks) = none
  | [], _, .nil => rfl
  | (a, v) :: kvs, _, .cons h t => by
    rw [dGet_cons]
    show cond (PyData.eqv (keyD a) (keysD ks)) _ _ = none
    have : PyData.eqv (keyD a) (keysD ks) = false := by
      cases a with
      | inl i => exact eqv_it _ _
      | inr i => exact eqv_st _ _
    rw [this]
    exact mis_kt ks t
theorem mis_tk (k : Key) : ∀ {kvs : List (List Key × V)} {ds : List (PyData × PyData)}, Rpk K F (dicT kvs) ds → dGet ds (keyD k) = none
  | [], _, .nil => rfl
  | (a, v) :: kvs, _, .cons h t => by
    rw [dGet_cons]
    show cond (PyData.eqv (keysD a) (keyD k)) _ _ = none
    have : PyData.eqv (keysD a) (keyD k) = false := by
      cases k with
      | inl i => exact eqv_ti _ _
      | inr i => exact eqv_ts _ _
    rw [this]
    exact mis_tk k t
/-! ### d[k] -/
def rDGet : R2 := fun x y H Q => ∃ a v, x = .ref a ∧ DGet H a y (some v) ∧ Q v H
def bIxD (x y z : PyData) : Prop := ∃ ds, x = .dict ds ∧ keyB y = true ∧ dGet ds y = some z
theorem opB_ixD : OpB K rDGet bIxD := by
  intro F H v w x y z Q g h1 h2 ⟨ds, e, kb, eg⟩ hy
  subst e
  rcases rdv_dict g h1 with ⟨a, kvs, ev, hk, rk⟩ | ⟨a, kvs, ev, hk, rk⟩ | ⟨n, e⟩
  · rcases rdv_key (F := F) (H := H) h2 kb with ⟨k, ey, ew⟩ | ⟨ks, b, ey, ew, hb⟩
    · subst ey ew ev
      have q := rpk_get (g := keyD) keyD_eqv rk k
      rw [eg] at q
      cases hv : valV kvs k with
      | none => rw [hv] at q; exact q.elim
      | some u =>
        rw [hv] at q
        exact ⟨a, u, rfl, .inl ⟨kvs, k, hk, rfl, hv.symm⟩, hy.1 _ q⟩
    · subst ey
      rw [mis_kt ks rk] at eg
      cases eg
  · rcases rdv_key (F := F) (H := H) h2 kb with ⟨k, ey, ew⟩ | ⟨ks, b, ey, ew, hb⟩
    · subst ey
      rw [mis_tk k rk] at eg
      cases eg
    · subst ey ew ev
      have q := rpk_get (g := keysD) keysD_eqv rk ks
      rw [eg] at q
      cases hv : valV kvs ks with
      | none => rw [hv] at q; exact q.elim
      | some u =>
        rw [hv] at q
        have hb' : H b = some (.tup (ks.map kV)) := by
          rcases g b _ hb with z | ⟨z, _⟩
          · exact z
          · exact z.elim
        exact ⟨a, u, rfl, .inr ⟨kvs, ks, b, hk, rfl, hb', hv.symm⟩, hy.1 _ q⟩
  · subst e
    rw [dGet_cons] at eg
    have : PyData.eqv .none y = false := by
      cases y <;> first | (cases kb; done) | rfl | (rw [PyData.eqv])
    rw [show PyData.eqv (PyData.none, PyData.str n).1 y = false from this] at eg
    cases eg
def opIxD (x y : PyData) : Option Vl := match x with
  | .dict ds => onee (keyB y) ((dGet ds y).map Vl.d)
  | _ => none
theorem opIxD_eq (ds : List (PyData × PyData)) (y : PyData) : opIxD (.dict ds) y = onee (keyB y) ((dGet ds y).map Vl.d) := rfl2 rfl
theorem opIxD_ok : ∀ x y w, opIxD x y = some w → ∃ z, w = .d z ∧ bIxD x y z := fun x y w h => by
  unfold opIxD at h
  split at h
  · obtain ⟨h1, h2⟩ := onee_some h
    obtain ⟨z, e1, e2⟩ := Option.map_eq_some_iff.mp h2
    exact ⟨z, e2.symm, _, rfl, h1, e1⟩
  · cases h
theorem qe_ixD {fa fb : FT} (hu : X.A.units + 66 < cLine) (ha : FE PX E X a fa) (hb : FE PX E X b fb) (hs : NoSl b := by exact fun _ _ => rfl) : FE PX E X (.Subscript a b pos) (qOp opIxD fa fb) :=
  qe_opD (wkE (pe_dget (by omega) ha hb hs) (op_bin opB_ixD)) opIxD_ok
/-! ### {} -/
def qDNew (r : DEnv) : Out (Vl × DEnv) := .ok (.n (.dict []), r)
theorem qDNew_eq (r : DEnv) : qDNew r = .ok (.n (.dict []), r) := rfl2 rfl
theorem qe_dnew : FE PX E X (.Dict [] [] pos) qDNew := by
  refine wkE pe_dnewK fun st H Q ⟨F, r, P, R, q, kk⟩ => fun p' n => ?_
  have B := R.newH (o := .dK []) n
  refine kk (.n (.dict [])) r _ _ _ q B ⟨p', rfl, ⟨R.sub.free n, .inl ⟨[], upd_same, .nil⟩⟩, fun m => ?_⟩ fun w e => by cases e; exact n
  obtain ⟨⟨u, hu⟩, _⟩ := R.mutIn m
  rw [n] at hu
  cases hu
end
end DL
set_option Elab.async false
set_option linter.all false
set_option autoImplicit false
set_option maxRecDepth 100000
set_option maxHeartbeats 4000000
/-! FLl: dicts written, keys looked for. -/
namespace DL
open PySem PySem.Spec PyProof.Rows L2 Out
section
variable {X : Cx} {pins : List (Addr × Obj)} {σ : L2.St} {H : Hp} {s : Shared} {d : Addr}
/-- an empty dict may be told as one of either kind -/
theorem swap_kt (I : Inv X pins σ H s) (h : H d = some (.dK [])) : Inv X pins σ (upd H d (.dT [])) s := by
  obtain ⟨_, lo, vs, rk, o, es, ep, ho, hx, hd, hk, hp, nd⟩ := (show ObjOk X.prog X.w H s.heap d (.dK []) from I.hok d _ h)
  cases rk
  have e : es.toList = [] := by
    cases q : es.toList with
    | nil => rfl
    | cons a b => rw [q] at hp; cases hp
  exact I.write (x := d) (e := d) (t' := s.toks) (h' := s.heap) (by rw [h]; trivial) (.inl rfl) (fun b v _ q => q) ⟨o, ho⟩ ⟨Nat.zero_le _, lo, [], .nil, o, es, ep, ho, hx, hd, by rw [e]; rfl, List.nodup_nil⟩
theorem swap_tk (I : Inv X pins σ H s) (h : H d = some (.dT [])) : Inv X pins σ (upd H d (.dK [])) s := by
  obtain ⟨_, lo, xs, r, o, es, ep, ho, hx, hd, he, nd⟩ := (show ObjOk X.prog X.w H s.heap d (.dT []) from I.hok d _ h)
  cases r
  have e : es.toList = [] := by rw [he]; rfl
  have e0 : es = #[] := Array.toList_eq_nil_iff.mp e
  subst e0
  exact I.write (x := d) (e := d) (t' := s.toks) (h' := s.heap) (by rw [h]; trivial) (.inl rfl) (fun b v _ q => q) ⟨o, ho⟩ ⟨Nat.zero_le _, lo, [], .nil, o, #[], ep, ho, hx, hd, fun e he => (by simp at he), .nil, List.nodup_nil⟩
def Swp (Q : Hp → Prop) (H : Hp) : Prop := Q H ∨ ∃ d, (H d = some (.dK []) ∧ Q (upd H d (.dT []))) ∨ (H d = some (.dT []) ∧ Q (upd H d (.dK [])))
def tSwp (t : TE) : TE := fun σ H Q => t σ H fun v H1 => Swp (Q v) H1
theorem pe_swp {e : Expr} {t : TE} (h : PE X e t) : PE X e (tSwp t) := by
  refine ⟨fun pins s σ H Q I q => thn (h.run pins s σ H _ I q) fun v s1 ⟨x, H1, I1, r, q1⟩ => ?_⟩
  rcases q1 with q1 | ⟨d, ⟨e1, q1⟩ | ⟨e1, q1⟩⟩
  · exact ⟨x, H1, I1, r, q1⟩
  · exact ⟨x, _, swap_kt I1 e1, r, q1⟩
  · exact ⟨x, _, swap_tk I1 e1, r, q1⟩
end
/-- the key is of the kind that the dict's keys are of -/
def kindB (ds : List (PyData × PyData)) (x : PyData) : Bool := ds.all fun q => isTp q.1 == isTp x
theorem kind_k {K : PySem.W.Frag} {F : Hp} {kvs : List (Key × V)} {ds : List (PyData × PyData)} {ks : List Key} (h : Rpk K F (dicK kvs) ds) (q : kindB ds (keysD ks) = true) : kvs = [] ∧ ds = [] := by
  cases kvs with
  | nil => cases h; exact ⟨rfl, rfl⟩
  | cons a t =>
    obtain ⟨a, v⟩ := a
    cases h with
    | cons h t =>
      unfold kindB at q
      rw [List.all_cons, Bool.and_eq_true] at q
      cases a <;> cases q.1
theorem kind_t {K : PySem.W.Frag} {F : Hp} {kvs : List (List Key × V)} {ds : List (PyData × PyData)} {k : Key} (h : Rpk K F (dicT kvs) ds) (q : kindB ds (keyD k) = true) : kvs = [] ∧ ds = [] := by
  cases kvs with
  | nil => cases h; exact ⟨rfl, rfl⟩
  | cons a t =>
    obtain ⟨a, v⟩ := a
    cases h with
    | cons h t =>
      unfold kindB at q
      rw [List.all_cons, Bool.and_eq_true] at q
      cases k <;> cases q.1
section
variable {PX : Exn → Prop} {X : Cx} {E : Ent} {K : PySem.W.Frag} {F H : Hp} {e a b tg : Expr} {es : List Expr} {p pos : Pos} {k i n : Nat} {x y : PyData} {r : DEnv} {v w : V} {ds : List (PyData × PyData)} {st : St} {q : Addr}
def dicS : Option (Option Sl) → Option (List (PyData × PyData))
  | some (some (.l (.dict ds))) => some ds
  | some (some (.b (.dict ds))) => some ds
  | _ => none
theorem dicS_l (ds : List (PyData × PyData)) : dicS (some (some (.l (.dict ds)))) = some ds := rfl2 rfl
theorem dicS_b (ds : List (PyData × PyData)) : dicS (some (some (.b (.dict ds)))) = some ds := rfl2 rfl
theorem dicS_some {o : Option (Option Sl)} (h : dicS o = some ds) : ∃ s, o = some (some s) ∧ Sl.mu s = true ∧ s.it = .dict ds := by
  unfold dicS at h
  split at h
  · cases h; exact ⟨_, rfl, rfl, rfl⟩
  · cases h; exact ⟨_, rfl, rfl, rfl⟩
  · cases h
theorem sub_tup (g : Sub F H) {b : Addr} {xs : List V} (h : F b = some (.tup xs)) : H b = some (.tup xs) := by
  rcases g b _ h with z | ⟨z, _⟩
  · exact z
  · exact z.elim
def sDput (i : Nat) (fe fk : DT) (P : DEnds) (r : DEnv) : Prop := (∃ ds, slotD r i = some (.dict ds)) ∧ dFz fe r fun s r1 => ∃ y, s = .d y ∧ fk r1 fun u r2 => ∃ x ds t, rd r2 u = some x ∧ r2[i]? = some (some t) ∧ Sl.mu t = true ∧ t.it = .dict ds ∧ keyB x = true ∧ kindB ds x = true ∧ ds.length < sizeLine ∧ P.nx (setC r2 i (.dict (dPut ds x y)))
theorem ds_dput {fe fk : DT} (h : PS X (.Assign [tg] e pos) (sDPut (tVar i) (tSwp (tD X.K E fk)) (tD X.K E (dFz fe)))) : DS E X (.Assign [tg] e pos) (sDput i fe fk) := by
  refine wkS h fun D st H ⟨F, r, P, R, ⟨⟨ds0, e0⟩, p⟩, k⟩ => ?_
  obtain ⟨v, ev, rv⟩ := slot_read R e0
  refine ⟨F, r, _, R, p, ?_⟩
  rintro s r1 w F1 H1 ⟨y, es, q1⟩ A1 ok n
  subst es
  refine ⟨v, ev, F1, r1, _, A1.rel, q1, ?_⟩
  rintro u r2 w2 F2 H2 ⟨x, ds, t, eu, e1, m1, it, kb, kd, hl, q2⟩ A2 ok2 n2
  obtain ⟨q', e2, z⟩ := A2.rel.mu_at e1 m1
  rw [ev] at e2
  cases e2
  rw [it] at z
  have rk := rdv_key (A2.rel.read ok2 eu) kb
  have rw : Rp X.K F2 w y := rpM A2.stp.gf ok
  have fin : ∀ o, ObAt X.K F2 (upd H2 q' o) q' (.dict (dPut ds x y)) → D.nx st (upd H2 q' o) := fun o ob => by
    have B := A2.rel.wrt (o := o) e1 m1 ev (y := .dict (dPut ds x y)) ob
    exact k.nx _ _ _ _ q2 B.rel ((A1.stp.gf.trans A2.stp.gf).trans B.stp.gf)
  obtain ⟨f1, ⟨kvs, h1, r1⟩ | ⟨kvs, h1, r1⟩⟩ := (show F2 q' = none ∧ ((∃ kvs, H2 q' = some (.dK kvs) ∧ Rpk X.K F2 (dicK kvs) ds) ∨ ∃ kvs, H2 q' = some (.dT kvs) ∧ Rpk X.K F2 (dicT kvs) ds) from z)
  · have lk : kvs.length = ds.length := by rw [← rpk_len r1]; unfold dicK; rw [List.length_map]
    rcases rk with ⟨kk, ey, ew⟩ | ⟨ks, b, ey, ew, hb⟩
    · subst ey ew
      exact .inl ⟨q', _, rfl, .inl ⟨kvs, kk, h1, rfl, by omega, rfl⟩, fin _ ⟨f1, .inl ⟨_, upd_same, rpk_put (g := keyD) keyD_eqv kk rw r1⟩⟩⟩
    · subst ey ew
      obtain ⟨z1, z2⟩ := kind_k r1 kd
      subst z1 z2
      have hb' := sub_tup A2.rel.sub hb
      have nb : b ≠ q' := fun z => by rw [z, h1] at hb'; cases hb'
      refine .inr ⟨q', .inl ⟨h1, q', _, rfl, .inr ⟨[], ks, b, upd_same, rfl, by rw [upd_ne nb]; exact hb', by decide, rfl⟩, ?_⟩⟩
      rw [upd_upd]
      exact fin _ ⟨f1, .inr ⟨_, upd_same, rpk_put (g := keysD) keysD_eqv ks rw (kvs := []) .nil⟩⟩
  · have lk : kvs.length = ds.length := by rw [← rpk_len r1]; unfold dicT; rw [List.length_map]
    rcases rk with ⟨kk, ey, ew⟩ | ⟨ks, b, ey, ew, hb⟩
    · subst ey ew
      obtain ⟨z1, z2⟩ := kind_t r1 kd
      subst z1 z2
      refine .inr ⟨q', .inr ⟨h1, q', _, rfl, .inl ⟨[], kk, upd_same, rfl, by decide, rfl⟩, ?_⟩⟩
      rw [upd_upd]
      exact fin _ ⟨f1, .inl ⟨_, upd_same, rpk_put (g := keyD) keyD_eqv kk rw (kvs := []) .nil⟩⟩
    · subst ey ew
      have hb' := sub_tup A2.rel.sub hb
      exact .inl ⟨q', _, rfl, .inr ⟨kvs, ks, b, h1, rfl, hb', by omega, rfl⟩, fin _ ⟨f1, .inr ⟨_, upd_same, rpk_put (g := keysD) keysD_eqv ks rw r1⟩⟩⟩
def dpK3 (i : Nat) (x y : PyData) (r : DEnv) (ds : List (PyData × PyData)) : Out Fl := need (keyB x && kindB ds x && lenLt ds.length) (.ok (.nx (setC r i (.dict (dPut ds x y)))))
def dpK2b (i : Nat) (y : PyData) (r : DEnv) (x : PyData) : Out Fl := opt (dicS r[i]?) (dpK3 i x y r)
def dpK2 (i : Nat) (y : PyData) (u : Vl) (r : DEnv) : Out Fl := opt (rd r u) (dpK2b i y r)
def dpK1 (i : Nat) (fk : FT) (s : Vl) (r : DEnv) : Out Fl := match s with
  | .d y => bind2 (fk r) (dpK2 i y)
  | _ => .bad
def dpK0 (i : Nat) (fe fk : FT) (r : DEnv) (_ : List (PyData × PyData)) : Out Fl := bind2 (qFz fe r) (dpK1 i fk)
def qsDput (i : Nat) (fe fk : FT) (r : DEnv) : Out Fl := opt (dicS r[i]?) (dpK0 i fe fk r)
theorem dpK3_eq (i : Nat) (x y : PyData) (r : DEnv) (ds : List (PyData × PyData)) : dpK3 i x y r ds = need (keyB x && kindB ds x && lenLt ds.length) (.ok (.nx (setC r i (.dict (dPut ds x y))))) := rfl2 rfl
theorem dpK2b_eq (i : Nat) (y : PyData) (r : DEnv) (x : PyData) : dpK2b i y r x = opt (dicS r[i]?) (dpK3 i x y r) := rfl2 rfl
theorem dpK2_eq (i : Nat) (y : PyData) (u : Vl) (r : DEnv) : dpK2 i y u r = opt (rd r u) (dpK2b i y r) := rfl2 rfl
theorem dpK1_eq (i : Nat) (fk : FT) (y : PyData) (r : DEnv) : dpK1 i fk (.d y) r = bind2 (fk r) (dpK2 i y) := rfl2 rfl
theorem dpK0_eq (i : Nat) (fe fk : FT) (r : DEnv) (ds : List (PyData × PyData)) : dpK0 i fe fk r ds = bind2 (qFz fe r) (dpK1 i fk) := rfl2 rfl
theorem qsDput_eq (i : Nat) (fe fk : FT) (r : DEnv) : qsDput i fe fk r = opt (dicS r[i]?) (dpK0 i fe fk r) := rfl2 rfl
theorem qs_dput {fe fk : FT} {o ki : Expr} {op : Pos} (hu : X.A.units + 66 < cLine) (ho : PE X o (tVar i)) (hi : FE PX E X ki fk) (hv : FE PX E X e fe) (hs : swapsWith e (some (.Subscript o ki op)) pos.line X.env = pure false := by rfl) : FSt PX E X (.Assign [.Subscript o ki op] e pos) (qsDput i fe fk) :=
  fs_of (ds_dput (ps_dput (by omega) ho (pe_swp hi) (de_fz hv) hs)) fun P r p => by
  unfold ofS qsDput at p
  obtain ⟨ds0, e0, p⟩ := wp_opt p
  obtain ⟨s, es, ms, it⟩ := dicS_some e0
  refine ⟨⟨ds0, slotD_of es it⟩, ?_⟩
  unfold dpK0 at p
  refine qFz_d (f := fe) (r := r) (PX := PX) (P := fun s r1 => ∃ y, s = .d y ∧ ofT PX fk r1 fun u r2 => ∃ x ds t, rd r2 u = some x ∧ r2[i]? = some (some t) ∧ Sl.mu t = true ∧ t.it = .dict ds ∧ keyB x = true ∧ kindB ds x = true ∧ ds.length < sizeLine ∧ P.nx (setC r2 i (.dict (dPut ds x y)))) (wp2_mono (wp_bind2 p) fun s r1 q => ?_)
  unfold dpK1 at q
  split at q
  · rename_i y
    refine ⟨y, rfl, wp2_mono (wp_bind2 q) fun u r2 q => ?_⟩
    unfold dpK2 at q
    obtain ⟨x, ex, q⟩ := wp_opt q
    unfold dpK2b at q
    obtain ⟨ds, e1, q⟩ := wp_opt q
    obtain ⟨s1, es1, ms1, it1⟩ := dicS_some e1
    unfold dpK3 at q
    obtain ⟨hh, q⟩ := wp_need q
    rw [Bool.and_eq_true, Bool.and_eq_true] at hh
    exact ⟨x, ds, s1, ex, es1, ms1, it1, hh.1.1, hh.1.2, lenLt_iff.mp hh.2, q⟩
  · exact q.elim
end
end DL
set_option Elab.async false
set_option linter.all false
set_option autoImplicit false
set_option maxRecDepth 100000
set_option maxHeartbeats 4000000
/-! FLm: keys looked for in dicts: in, get. -/
namespace DL
open PySem PySem.Spec PyProof.Rows L2 Out
section
variable {PX : Exn → Prop} {X : Cx} {E : Ent} {K : PySem.W.Frag} {F H : Hp} {e a b tg : Expr} {es : List Expr} {p pos : Pos} {k i n : Nat} {x y : PyData} {r : DEnv} {v w : V} {ds : List (PyData × PyData)} {st : St} {q : Addr} {s t : Sl}
theorem setC_self (e1 : r[i]? = some (some t)) (m1 : Sl.mu t = true) : setC r i t.it = r := by
  unfold setC
  rw [e1]
  obtain ⟨h, e⟩ := List.getElem?_eq_some_iff.mp e1
  cases t with
  | d x => cases m1
  | l x =>
    show r.set i (some (.l x)) = r
    rw [← e]
    exact List.set_getElem_self h
  | b x =>
    show r.set i (some (.b x)) = r
    rw [← e]
    exact List.set_getElem_self h
/-- what a name's own dict holds at a key; an empty one may have to be told otherwise -/
theorem own_get (R : Rel K E F H st r) (e1 : r[i]? = some (some t)) (m1 : Sl.mu t = true) (it : t.it = .dict ds) (rk : RdK F H w x) (kd : kindB ds x = true) :
    ∃ q, st[i]? = some (some (.ref q)) ∧ Swp (fun H2 => Aft K E F H st r F H2 r ∧ ∃ o, DGet H2 q w o ∧ OptRp K F o (dGet ds x)) H := by
  obtain ⟨q', e2, z⟩ := R.mu_at e1 m1
  refine ⟨q', e2, ?_⟩
  have self := setC_self e1 m1
  rw [it] at z self
  obtain ⟨f1, ⟨kvs, h1, r1⟩ | ⟨kvs, h1, r1⟩⟩ := (show F q' = none ∧ ((∃ kvs, H q' = some (.dK kvs) ∧ Rpk K F (dicK kvs) ds) ∨ ∃ kvs, H q' = some (.dT kvs) ∧ Rpk K F (dicT kvs) ds) from z)
  · rcases rk with ⟨kk, ey, ew⟩ | ⟨ks, b, ey, ew, hb⟩
    · subst ey ew
      exact .inl ⟨.refl R, _, .inl ⟨kvs, kk, .inl h1, rfl, rfl⟩, rpk_get (g := keyD) keyD_eqv r1 kk⟩
    · subst ey ew
      obtain ⟨z1, z2⟩ := kind_k r1 kd
      subst z1 z2
      have hb' := sub_tup R.sub hb
      have nb : b ≠ q' := fun z => by rw [z, h1] at hb'; cases hb'
      have B := R.wrt (o := .dT []) e1 m1 e2 (y := .dict []) ⟨f1, .inr ⟨[], upd_same, .nil⟩⟩
      rw [self] at B
      exact .inr ⟨q', .inl ⟨h1, B, none, .inr ⟨[], ks, b, .inl upd_same, rfl, by rw [upd_ne nb]; exact hb', rfl⟩, trivial⟩⟩
  · rcases rk with ⟨kk, ey, ew⟩ | ⟨ks, b, ey, ew, hb⟩
    · subst ey ew
      obtain ⟨z1, z2⟩ := kind_t r1 kd
      subst z1 z2
      have B := R.wrt (o := .dK []) e1 m1 e2 (y := .dict []) ⟨f1, .inl ⟨[], upd_same, .nil⟩⟩
      rw [self] at B
      exact .inr ⟨q', .inr ⟨h1, B, none, .inl ⟨[], kk, .inl upd_same, rfl, rfl⟩, trivial⟩⟩
    · subst ey ew
      exact .inl ⟨.refl R, _, .inr ⟨kvs, ks, b, .inl h1, rfl, sub_tup R.sub hb, rfl⟩, rpk_get (g := keysD) keysD_eqv r1 ks⟩
theorem frz_get (g : Sub F H) (h : Rdv K F H v (.dict ds)) (rk : RdK F H w x) (kd : kindB ds x = true) (ne : ds.isEmpty = false) (nf : fakD (.dict ds) = false) :
    ∃ q, v = .ref q ∧ ∃ o, DGet H q w o ∧ OptRp K F o (dGet ds x) := by
  rcases rdv_dict g h with ⟨a, kvs, ev, hk, r1⟩ | ⟨a, kvs, ev, hk, r1⟩ | ⟨n, e⟩
  · rcases rk with ⟨kk, ey, ew⟩ | ⟨ks, b, ey, ew, hb⟩
    · subst ey ew
      exact ⟨a, ev, _, .inl ⟨kvs, kk, hk, rfl, rfl⟩, rpk_get (g := keyD) keyD_eqv r1 kk⟩
    · subst ey ew
      obtain ⟨z1, z2⟩ := kind_k r1 kd
      subst z1 z2
      cases ne
  · rcases rk with ⟨kk, ey, ew⟩ | ⟨ks, b, ey, ew, hb⟩
    · subst ey ew
      obtain ⟨z1, z2⟩ := kind_t r1 kd
      subst z1 z2
      cases ne
    · subst ey ew
      exact ⟨a, ev, _, .inr ⟨kvs, ks, b, hk, rfl, sub_tup g hb, rfl⟩, rpk_get (g := keysD) keysD_eqv r1 ks⟩
  · subst e
    cases nf
def dicA (x : PyData) : Option (Option Sl) → Option (List (PyData × PyData))
  | some (some (.l (.dict ds))) => some ds
  | some (some (.b (.dict ds))) => some ds
  | some (some (.d (.dict ds))) => onee (!ds.isEmpty && !fakD (.dict ds)) (some ds)
  | _ => none
theorem dicA_l (x : PyData) (ds : List (PyData × PyData)) : dicA x (some (some (.l (.dict ds)))) = some ds := rfl2 rfl
theorem dicA_b (x : PyData) (ds : List (PyData × PyData)) : dicA x (some (some (.b (.dict ds)))) = some ds := rfl2 rfl
theorem dicA_d (x : PyData) (ds : List (PyData × PyData)) : dicA x (some (some (.d (.dict ds)))) = onee (!ds.isEmpty && !fakD (.dict ds)) (some ds) := rfl2 rfl
theorem any_get (R : Rel K E F H st r) (e1 : dicA x r[i]? = some ds) (rk : RdK F H w x) (kd : kindB ds x = true) :
    ∃ q, st[i]? = some (some (.ref q)) ∧ Swp (fun H2 => Aft K E F H st r F H2 r ∧ ∃ o, DGet H2 q w o ∧ OptRp K F o (dGet ds x)) H := by
  unfold dicA at e1
  split at e1
  · rename_i ds' q
    cases e1
    exact own_get R q rfl rfl rk kd
  · rename_i ds' q
    cases e1
    exact own_get R q rfl rfl rk kd
  · rename_i ds' q
    obtain ⟨h1, h2⟩ := onee_some e1
    cases h2
    rw [Bool.and_eq_true] at h1
    obtain ⟨v, ev, rv⟩ := R.dat i _ q
    obtain ⟨a, ea, o, z⟩ := frz_get R.sub (.inl rv) rk kd (by simpa using h1.1) (by simpa using h1.2)
    subst ea
    exact ⟨a, ev, .inl ⟨.refl R, o, z⟩⟩
  · cases e1
def inD3 (neg : Bool) (r : DEnv) (x : PyData) (ds : List (PyData × PyData)) : Out (Vl × DEnv) := need (keyB x && kindB ds x) (.ok (.d (.bool (neg ^^ (dGet ds x).isSome)), r))
def inD2 (neg : Bool) (i : Nat) (r : DEnv) (x : PyData) : Out (Vl × DEnv) := opt (dicA x r[i]?) (inD3 neg r x)
def inD1 (neg : Bool) (i : Nat) (s : Vl) (r : DEnv) : Out (Vl × DEnv) := opt (rd r s) (inD2 neg i r)
def qInD (neg : Bool) (fa : FT) (i : Nat) (r : DEnv) : Out (Vl × DEnv) := bind2 (fa r) (inD1 neg i)
theorem inD3_eq (neg : Bool) (r : DEnv) (x : PyData) (ds : List (PyData × PyData)) : inD3 neg r x ds = need (keyB x && kindB ds x) (.ok (.d (.bool (neg ^^ (dGet ds x).isSome)), r)) := rfl2 rfl
theorem inD2_eq (neg : Bool) (i : Nat) (r : DEnv) (x : PyData) : inD2 neg i r x = opt (dicA x r[i]?) (inD3 neg r x) := rfl2 rfl
theorem inD1_eq (neg : Bool) (i : Nat) (s : Vl) (r : DEnv) : inD1 neg i s r = opt (rd r s) (inD2 neg i r) := rfl2 rfl
theorem qInD_eq (neg : Bool) (fa : FT) (i : Nat) (r : DEnv) : qInD neg fa i r = bind2 (fa r) (inD1 neg i) := rfl2 rfl
theorem wkC {op : CmpOp} {t t' : TE} (h : PC X op a b t) (k : ∀ st H Q, t' st H Q → t st H Q) : PC X op a b t' := ⟨fun pins s st H Q I q => h.run pins s st H Q I (k _ _ _ q)⟩
theorem inD_main {neg : Bool} {fa : FT} {Q : VK} (h : tD X.K E (ofT PX (qInD neg fa i)) st H Q) :
    tD X.K E (ofT PX fa) st H fun y H1 => tSwp (tVar i) st H1 fun x H2 => ∃ a o, x = .ref a ∧ DGet H2 a y o ∧ Q (.bl (neg ^^ o.isSome)) H2 := by
  obtain ⟨F, r, P, R, p, kk⟩ := h
  unfold ofT qInD at p
  refine ⟨F, r, _, R, wp2_bind2 p, fun s r1 v F1 H1 q A ok n => ?_⟩
  unfold inD1 at q
  obtain ⟨x, ex, q⟩ := wp2_opt q
  unfold inD2 at q
  obtain ⟨ds, ed, q⟩ := wp2_opt q
  unfold inD3 at q
  obtain ⟨hh, q⟩ := wp2_need q
  rw [Bool.and_eq_true] at hh
  obtain ⟨a, ea, sw⟩ := any_get A.rel ed (rdv_key (A.rel.read ok ex) hh.1) hh.2
  refine ⟨_, ea, ?_⟩
  have fin : ∀ H2, (Aft X.K E F1 H1 st r1 F1 H2 r1 ∧ ∃ o, DGet H2 a v o ∧ OptRp X.K F1 o (dGet ds x)) → ∃ a' o, V.ref a = .ref a' ∧ DGet H2 a' v o ∧ Q (.bl (neg ^^ o.isSome)) H2 := fun H2 ⟨B, o, g, ro⟩ => by
    refine ⟨a, o, rfl, g, ?_⟩
    rw [optRp_isSome ro]
    exact kk _ _ _ _ _ q (A.trans B) (.bl _) trivial
  rcases sw with z | ⟨d, ⟨e1, z⟩ | ⟨e1, z⟩⟩
  · exact .inl (fin _ z)
  · exact .inr ⟨d, .inl ⟨e1, fin _ z⟩⟩
  · exact .inr ⟨d, .inr ⟨e1, fin _ z⟩⟩
theorem pcq_in {fa : FT} (hu : X.A.units + 66 < cLine) (ha : FE PX E X a fa) (ho : PE X b (tVar i)) : PC X .In a b (tD X.K E (ofT PX (qInD false fa i))) :=
  wkC (pc_din (by omega) ha (pe_swp ho)) fun st H Q h => by
    have q := inD_main h
    simp only [Bool.false_xor] at q
    exact q
theorem pcq_nin {fa : FT} (hu : X.A.units + 66 < cLine) (ha : FE PX E X a fa) (ho : PE X b (tVar i)) : PC X .NotIn a b (tD X.K E (ofT PX (qInD true fa i))) :=
  wkC (pc_dnotin (by omega) ha (pe_swp ho)) fun st H Q h => by
    have q := inD_main h
    simp only [Bool.true_xor] at q
    exact q
theorem qe_pc {op : CmpOp} {f : FT} (h : PC X op a b (tD X.K E (ofT PX f))) (h1 : behindInMarks op b = false := by rfl) : FE PX E X (.Compare a [op] [b] pos) f := pe_cmp h h1
theorem qt_pc {op : CmpOp} {f : FT} (h : PC X op a b (tD X.K E (ofT PX f))) (h1 : behindInMarks op b = false := by rfl) : FTe PX E X (.Compare a [op] [b] pos) (qTe f) := qt_val (pt_cmp h h1)
end
end DL
set_option Elab.async false
set_option linter.all false
set_option autoImplicit false
set_option maxRecDepth 100000
set_option maxHeartbeats 4000000
/-! FLn: sets of ints: sorted(set(x)), len(set(x)). -/
namespace DL
open PySem PySem.Spec PyProof.Rows L2 Out
section
variable {P : Program} {w : World} {A : Around} {EE : Value → Shared → Prop} {s : Shared}
abbrev newSetO (w : World) : Obj := { cls := .type "set", dict := none, data := .set #[] 0 (.fresh 0 0 (!w.params.followText "set-order")) }
set_option maxHeartbeats 8000000 in
theorem set_of_list {l : Addr} {us : Array Value} (ns : List Int) {Q : Value → Shared → Prop} (hh : A.handled = none) (hl : s.heap.IsList l us) (hit : IntsAre us.toList ns) (hb : ns.length + 1 < scanBound)
    (h : ∀ (h' : Heap) (tk c : Nat), SetR w h' s.heap.objs.size (fun j => decide (j ∈ ns)) c → c ≤ ns.length → (∀ b o, s.heap.get? b = some o → h'.get? b = some o) → Q (.ref s.heap.objs.size) { s with heap := h', toks := tk }) :
    wpAny (model P w) A (call (.type "set") [.ref l]) Q EE s := by
  have hz : us.size = ns.length := by
    have q := IntsAre.length hit
    rwa [Array.length_toList] at q
  obtain ⟨cc, tl, hmro⟩ := F.called_set.mro
  have k1 := F.called_set.made; have k2 := F.called_set.sub; have k3 := F.called_set.notType; have k4 := F.called_set.canCreate
  have k5 := F.typeCall_set_1 (.ref l)
  refine wpAny_call (codeAny_of_tree (show wpAny _ _ (callAny (.type "set") _) _ _ _ from wpAny_pure ⟨Code.quiet_builtin _ (by decide +kernel), codeAny_builtin F.entry_type_call ?_⟩))
  rw [Around.under_plain (weight_type_call_type "set" [.ref l] []) rfl]
  repeat (any_goals (first | assumption | wp_step))
  refine codeAny_mono (code_set_led1 (.ref l) (E := EE) (Q₁ := fun z s₁ => z = .ref s.heap.objs.size ∧ s₁ = { s with heap := s.heap.push (newSetO w) }) ⟨rfl, rfl⟩) fun rr s₁ hr => ?_
  cases rr with
  | error e => exact hr
  | ok fl =>
    cases fl with
    | ret obj =>
      obtain ⟨e1, e2⟩ := hr
      subst e1 e2
      have g0 : (s.heap.push (newSetO w)).get? s.heap.objs.size = some (newSetO w) := Heap.get?_push_size _ rfl
      have tS : Shared.TypeIs { s with heap := s.heap.push (newSetO w) } (.ref s.heap.objs.size) "set" := ⟨_, g0, rfl⟩
      have i1 := F.called_set.init.lookup; have i2 := F.called_set.init.bind (.ref s.heap.objs.size)
      repeat (any_goals (first | assumption | wp_step))
      refine codeAny_mono (codeAny_call_builtin (R := wants (fun z s₂ => z = .none ∧ ∃ h' tk c, s₂ = { s with heap := h', toks := tk } ∧ SetR w h' s.heap.objs.size (fun j => decide (j ∈ ns)) c ∧ c ≤ ns.length ∧ (∀ b o, s.heap.get? b = some o → h'.get? b = some o)) EE)
        F.called_set.init.plain F.entry_set_init (check_set_init_1 tS ?_)) fun r₂ s₂ hr₂ => ?_
      · obtain ⟨⟨oc, od, odt, osl⟩, hol, hcl, nl, hdl⟩ := hl
        simp only at hcl hdl
        subst hcl hdl
        have hol' : (s.heap.push (newSetO w)).get? l = some { cls := .type "list", dict := od, data := .seq us nl, slots := osl } := Heap.get?_push_of_some _ hol
        have j1 := F.sub_list_set; have j2 := F.sub_list_frozenset
        have ne : (Value.type "list" == Value.type "dict") = false := by decide
        have hl1 : (s.heap.push (newSetO w)).IsList l us := ⟨_, hol', rfl, nl, rfl⟩
        unfold Builtin.«set.__init__» noKeywords Builtin.Frozenset.updateFrom
        generalize hPI : pyIter = PI
        wp_walk
        subst hPI
        refine wpAny_pyIter_list hl1 (wpAny_bind (wpAny_runValue ?_))
        have lS : l < s.heap.objs.size := Heap.lt_size hol
        have h3 : A.in1.in1.in1.handled = none := by simp [hh]
        have z1 : (s.heap.push (newSetO w)).objs.size = s.heap.objs.size + 1 := Heap.size_push ..
        have nI : l ≠ (s.heap.push (newSetO w)).objs.size := by rw [z1]; exact Nat.ne_of_lt (Nat.lt_succ_of_lt lS)
        have nS : s.heap.objs.size ∉ [(s.heap.push (newSetO w)).objs.size, l] := by
          rw [z1]
          simp only [List.mem_cons, List.not_mem_nil, or_false, not_or]
          exact And.intro (Nat.ne_of_lt (Nat.lt_succ_self _)) (Nat.ne_of_gt lS)
        have val : ∀ (i : Nat) (v : Value), us[i]? = some v → ∃ k t, ns[i]? = some k ∧ v = .int k t := fun i v hv => by
          have hi : i < ns.length := by
            rw [← hz]
            exact (Array.getElem?_eq_some_iff.mp hv).1
          obtain ⟨t, e⟩ := PyProof.Rows.IntsAre.int_at hit i v (by rw [Array.getElem?_toList]; exact hv)
          refine ⟨ns[i], t, List.getElem?_eq_getElem hi, ?_⟩
          rw [e, List.getD_eq_getElem?_getD, List.getElem?_eq_getElem hi]
          rfl
        refine set_update_ints ((Walks.list h3 _ l nI us).toS) s.heap.objs.size nS ns hz hb val (us.size - 0) 0 _ (by omega) (Nat.zero_le _) ⟨⟨_, Heap.get?_push_size _ rfl, rfl, rfl⟩, hl1.push _⟩ ?first0 ?then0
        case first0 => exact ⟨0, Nat.le_refl 0, setR_new_at (Heap.get?_push_of_some _ g0)⟩
        case then0 =>
          intro s' c' hm hc' hS'
          obtain ⟨h', g2, d', tk', os'⟩ := s'
          have eg : g2 = s.gens := hm.gens
          have ed : d' = s.drawn := hm.drawn
          have eo : os' = s.os := hm.os
          subst eg ed eo
          rw [hz] at hc'
          show wpAny _ _ (pure _ >>= _) _ _ _
          refine wpAny_pure (wpAny_pure ⟨rfl, h', tk', c', rfl, hS', hc', fun b o e => ?_⟩)
          have b0 : b < s.heap.objs.size := Heap.lt_size e
          exact hm.heap b o (by simp only [List.mem_cons, List.not_mem_nil, or_false, not_or]; exact And.intro (Nat.ne_of_lt b0) (by rw [z1]; exact Nat.ne_of_lt (Nat.lt_succ_of_lt b0))) (Heap.get?_push_of_some _ (Heap.get?_push_of_some _ e))
      · cases r₂ with
        | error e => exact hr₂
        | ok fl₂ =>
          cases fl₂ with
          | ret z =>
            obtain ⟨e1, h', tk, c', e2, hS', hc', hk'⟩ := hr₂
            subst e1 e2
            repeat (any_goals (first | assumption | wp_step))
            exact h _ _ _ hS' hc' hk'
          | _ => exact hr₂.elim
    | _ => exact hr.elim
end
/-! ### in the layer -/
def insS (k : Int) : List Int → List Int
  | [] => [k]
  | x :: xs => if k < x then k :: x :: xs else if k = x then x :: xs else x :: insS k xs
def setL (ns : List Int) : List Int := ns.foldr insS []
theorem insS_mem (k j : Int) : ∀ xs : List Int, j ∈ insS k xs ↔ j = k ∨ j ∈ xs
  | [] => by simp [insS]
  | x :: xs => by
    unfold insS
    split
    · simp
    · split
      · rename_i h
        subst h
        simp
      · rw [List.mem_cons, insS_mem k j xs, List.mem_cons]
        grind
theorem insS_lt (k : Int) : ∀ xs : List Int, xs.Pairwise (· < ·) → (insS k xs).Pairwise (· < ·)
  | [], _ => by simp [insS]
  | x :: xs, h => by
    obtain ⟨h1, h2⟩ := List.pairwise_cons.mp h
    unfold insS
    split
    · rename_i q
      exact List.pairwise_cons.mpr ⟨fun y hy => by
        rcases List.mem_cons.mp hy with e | e
        · subst e; exact q
        · exact Int.lt_trans q (h1 y e), h⟩
    · split
      · exact h
      · refine List.pairwise_cons.mpr ⟨fun y hy => ?_, insS_lt k xs h2⟩
        rcases (insS_mem k y xs).mp hy with e | e
        · subst e; omega
        · exact h1 y e
theorem setL_mem (j : Int) : ∀ ns : List Int, j ∈ setL ns ↔ j ∈ ns
  | [] => by simp [setL]
  | n :: ns => by
    show j ∈ insS n (setL ns) ↔ _
    rw [insS_mem, setL_mem j ns, List.mem_cons]
theorem setL_lt : ∀ ns : List Int, (setL ns).Pairwise (· < ·)
  | [] => List.Pairwise.nil
  | n :: ns => insS_lt n _ (setL_lt ns)
/-- strictly rising rows of the same members are alike -/
theorem lt_uniq : ∀ {xs ys : List Int}, xs.Pairwise (· < ·) → ys.Pairwise (· < ·) → (∀ j, j ∈ xs ↔ j ∈ ys) → xs = ys
  | [], [], _, _, _ => rfl
  | [], y :: ys, _, _, h => by have := (h y).mpr (List.mem_cons_self ..); cases this
  | x :: xs, [], _, _, h => by have := (h x).mp (List.mem_cons_self ..); cases this
  | x :: xs, y :: ys, hx, hy, h => by
    obtain ⟨x1, x2⟩ := List.pairwise_cons.mp hx
    obtain ⟨y1, y2⟩ := List.pairwise_cons.mp hy
    have e : x = y := by
      rcases List.mem_cons.mp ((h x).mp (List.mem_cons_self ..)) with e | e
      · exact e
      · rcases List.mem_cons.mp ((h y).mpr (List.mem_cons_self ..)) with e2 | e2
        · exact e2.symm
        · have a := y1 x e
          have b := x1 y e2
          omega
    subst e
    rw [lt_uniq x2 y2 fun j => ?_]
    constructor
    · intro hj
      rcases List.mem_cons.mp ((h j).mp (List.mem_cons_of_mem _ hj)) with e | e
      · subst e; have := x1 j hj; omega
      · exact e
    · intro hj
      rcases List.mem_cons.mp ((h j).mpr (List.mem_cons_of_mem _ hj)) with e | e
      · subst e; have := y1 j hj; omega
      · exact e
theorem insS_len (k : Int) : ∀ xs : List Int, (insS k xs).length ≤ xs.length + 1
  | [] => by simp [insS]
  | x :: xs => by
    unfold insS
    split
    · simp
    · split
      · simp
      · have := insS_len k xs
        simp only [List.length_cons]
        omega
theorem setL_len : ∀ ns : List Int, (setL ns).length ≤ ns.length
  | [] => Nat.le_refl _
  | n :: ns => by
    have a := insS_len n (setL ns)
    have b := setL_len ns
    show (insS n (setL ns)).length ≤ _
    rw [List.length_cons]
    omega
section
variable {PX : Exn → Prop} {X : Cx} {E : Ent} {K : PySem.W.Frag} {F H : Hp} {e a : Expr} {p p2 pos pos2 : Pos} {ga : DTA} {ha : FTA} {k : Nat}
def rSetI (K : PySem.W.Frag) (w : World) : List V → Hp → VK → Prop := fun xs H Q => ∃ (a : Addr) (ns : List Int), xs = [.ref a] ∧ (SqL K H a (ns.map V.int) ∨ SqT K H a (ns.map V.int)) ∧ ns.length + 1 < scanBound ∧
  ∀ q c, H q = none → c ≤ ns.length → Q (.ref q) (upd H q (SetO w q (fun j => decide (j ∈ ns)) c))
theorem cr_setI (hc : X.calm = true) : CallR X (.type "set") (rSetI X.K X.w) := by
  intro pins s σ H xs us Q I r ⟨a, ns, e, hs, hb, q⟩
  subst e
  rw [Vals.ref1 r]
  have fin : ∀ (h' : Heap) (tk c : Nat), SetR X.w h' s.heap.objs.size (fun j => decide (j ∈ ns)) c → c ≤ ns.length → (∀ b o, s.heap.get? b = some o → h'.get? b = some o) → EP X pins σ Q (.ref s.heap.objs.size) { s with heap := h', toks := tk } := fun h' tk c R lc kk =>
    ⟨.ref s.heap.objs.size, _, I.laid (t' := tk) kk (Nat.le_refl _) (setO_new R), rfl, q _ c (I.hok.fresh (Nat.le_refl _)) lc⟩
  rcases hs with hs | hs
  · obtain ⟨its, rv, pl, hz⟩ := I.list hs
    exact set_of_list (P := X.prog) (w := X.w) ns (I.ok.hd hc) pl.isList (by simpa using rv.ints) hb fin
  · obtain ⟨its, rv, pl, hz⟩ := I.tuple hs
    exact call_set_tupI (P := X.prog) (w := X.w) ns (I.ok.hd hc) pl (by simpa using rv.ints) hb fin
/-- .. as data -/
def intsB : PyData → Option (List Int)
  | .list xs => intsD xs
  | .tuple xs => intsD xs
  | _ => none
theorem intsD_some : ∀ {xs : List PyData} {ns : List Int}, intsD xs = some ns → xs = ns.map .int
  | [], ns, h => by cases h; rfl
  | x :: xs, ns, h => by
    unfold intsD at h
    split at h
    · rename_i e1; cases e1
    · rename_i b ys e1
      cases e1
      split at h
      · rename_i bs e2
        cases h
        rw [intsD_some e2]
        rfl
      · cases h
    · cases h
theorem rps_ints' {vs : List V} {ns : List Int} (h : Rps K F vs (ns.map PyData.int)) : vs = ns.map V.int := by
  induction ns generalizing vs with
  | nil => cases h; rfl
  | cons n ns ih => cases h with
    | cons a b =>
      cases a
      rw [ih b]
      rfl
theorem rdv_ints (g : Sub F H) {v : V} {x : PyData} {ns : List Int} (h : Rdv K F H v x) (e : intsB x = some ns) : ∃ q, v = .ref q ∧ (SqL K H q (ns.map V.int) ∨ SqT K H q (ns.map V.int)) := by
  cases x with
  | list xs =>
    rw [intsD_some (show intsD xs = some ns from e)] at h
    obtain ⟨q, vs, ev, hs, rs⟩ := h.seq g
    rw [rps_ints' rs] at hs
    exact ⟨q, ev, .inl hs⟩
  | tuple xs =>
    rw [intsD_some (show intsD xs = some ns from e)] at h
    obtain ⟨q, vs, ev, hs, rs⟩ := h.tup g
    rw [rps_ints' rs] at hs
    exact ⟨q, ev, .inr hs⟩
  | _ => cases e
def IsI (u : Value) (d : PyData) : Prop := ∃ (k : Int) (tk : Tok), u = .int k tk ∧ d = .int k
/-- sorted(found), as many members as a set may have -/
theorem sorted_setX {P : Program} {w : World} {A : Around} {EE : Value → Shared → Prop} {s : Shared} {a : Addr} {S : Int → Bool} {n : Nat} {Q : Value → Shared → Prop} (R : SetR w s.heap a S n) (hh : A.handled = none) (hu : A.units + 66 < cLine)
    (hQ : ∀ s' p (out : Array Value) (c : Nat) (ns : List Int), Grew s s' → s.heap.objs.size ≤ p → s'.heap.get? p = some (seqObj "list" out c) → IntsAre out.toList ns → ns.Pairwise (· < ·) → (∀ k, k ∈ ns ↔ S k = true) → ns.length = n → Q (.ref p) s') :
    wpAny (model P w) A (call (.builtin "sorted") [.ref a]) Q EE s := by
  obtain ⟨o, es, ep, t, ho, hex, hd, g, nd, hm, hb, hf, hn, hr, hl⟩ := R
  refine sorted_coll (R := IsI) (G := fun vs ds => ∃ ks : List Int, PySem.W.EachIs IsI vs ds ∧ ds = ks.map .int ∧ ks.Perm (es.toList.map keyOf)) ?_ ?_ ?_ ?_
  · rintro u d ⟨k, tk, rfl, rfl⟩
    exact ⟨[], .int _ _⟩
  · rintro vs ds ⟨ks, he, rfl, pk⟩
    have hlk : ks.length = n := by rw [pk.length_eq, List.length_map, Array.length_toList]; exact hn
    refine ⟨he, fun d hd d' hd' => ?_, .inl (.inr fun d hd => ?_), ?_, fun d hd => ?_⟩
    · obtain ⟨i, _, rfl⟩ := List.mem_map.mp hd
      obtain ⟨j, _, rfl⟩ := List.mem_map.mp hd'
      rw [PySem.W.alike]
    · obtain ⟨i, _, rfl⟩ := List.mem_map.mp hd
      exact ⟨by simp, fun xs => by simp⟩
    · rw [List.length_map, hlk, sizeLine_eq]
      have : scanBound = 4096 := rfl
      omega
    · obtain ⟨i, _, rfl⟩ := List.mem_map.mp hd
      rw [dp_int]
      omega
  · intro Q' E' k
    refine collect_set (A := A.in1) hh ⟨o, ho, hex.1, hd⟩ hf hb hr hl fun s1 vs k1 hz g1 o1 pm => ?_
    have hI : ∀ vs : List Value, (∀ v ∈ vs, ∃ (k : Int) (tk : Tok), v = .int k tk) → PySem.W.EachIs IsI vs ((vs.map Builtin.Re.reRawOf).map .int) := by
      intro vs
      induction vs with
      | nil => exact fun _ => .nil
      | cons v vs ih =>
        intro h
        obtain ⟨k, tk, rfl⟩ := h v List.mem_cons_self
        exact .cons ⟨k, tk, rfl, rfl⟩ (ih fun z hz => h z (List.mem_cons_of_mem _ hz))
    refine k vs _ s1 ⟨vs.map Builtin.Re.reRawOf, hI vs fun v hv => ?_, rfl, ?_⟩ ⟨k1, g1, o1, hz⟩
    · obtain ⟨e, he, q⟩ := List.mem_map.mp (pm.mem_iff.mp hv)
      obtain ⟨k, tk, h1, _⟩ := g e he
      exact ⟨k, tk, by rw [← q]; exact h1⟩
    · have q := pm.map Builtin.Re.reRawOf
      rw [List.map_map] at q
      exact q
  · rintro vs ds out c p s2 ⟨ks, he, rfl, pk⟩ gr hp hg ho2
    have srt : (ks.map PyData.int).mergeSort (PySem.W.dataLe false id) = (ks.mergeSort fun a b => decide (a ≤ b)).map .int := by
      have e1 : ∀ a b : Int, PySem.W.dataLe false id (PyData.int a) (PyData.int b) = decide (a ≤ b) := fun a b => congrFun (congrFun (PySem.W.dataLe_int (fun b : Int => b)) a) b
      rw [← List.map_mergeSort]
      intro a _ b _
      exact (e1 a b).symm
    rw [srt] at ho2
    have hI : ∀ (vs : List Value) (ks : List Int), PySem.W.EachIs IsI vs (ks.map .int) → IntsAre vs ks := by
      intro vs
      induction vs with
      | nil => intro ks h; cases ks with
        | nil => exact .nil
        | cons => cases h
      | cons v vs ih => intro ks h; cases ks with
        | nil => cases h
        | cons k ks =>
          cases h with
          | cons a b =>
            obtain ⟨j, tk, e1, e2⟩ := a
            cases e2
            subst e1
            exact .cons _ _ (ih ks b)
    have pn : (ks.mergeSort fun a b => decide (a ≤ b)).Perm (es.toList.map keyOf) := (List.mergeSort_perm ..).trans pk
    have so : (ks.mergeSort fun a b => decide (a ≤ b)).Pairwise (fun a b => decide (a ≤ b) = true) := List.pairwise_mergeSort (fun a b c h1 h2 => by simp at *; omega) (fun a b => by simp; omega) ks
    have lt : (ks.mergeSort fun a b => decide (a ≤ b)).Pairwise (· < ·) := lt_of_le_nodup _ (so.imp fun h => of_decide_eq_true h) (pn.nodup_iff.mpr nd)
    exact hQ s2 p out.toArray c _ gr hp hg (by simpa using hI _ _ ho2) lt (fun k => by rw [pn.mem_iff, ← hm k]) (by rw [pn.length_eq, List.length_map, Array.length_toList]; exact hn)
def rSortedSetX (w : World) : List V → Hp → VK → Prop := fun vs H Q => ∃ (a : Addr) (S : Int → Bool) (n : Nat), vs = [V.ref a] ∧ H a = some (SetO w a S n) ∧ n < 4096 ∧
  ∀ (ns : List Int) (p : Addr), ns.Pairwise (· < ·) → (∀ k : Int, k ∈ ns ↔ S k = true) → ns.length = n → H p = none → Q (.ref p) (upd H p (.lst (ns.map V.int)))
theorem cr_sortedSetX (hc : X.calm = true) (hu : X.A.units + 66 < cLine) : CallR X (.builtin "sorted") (rSortedSetX X.w) := by
  intro pins s σ H vs us Q I r h
  obtain ⟨a, S, n, rfl, ha, h64, q⟩ := h
  have R := setO_get I ha
  rw [Vals.ref1 r]
  refine sorted_setX R (I.ok.hd hc) hu fun s' p out c ns g hp hg hi hs hm hl => ?_
  have hlen : (ns.map V.int).length ≤ sizeLine := by rw [List.length_map, hl, sizeLine_eq]; omega
  obtain ⟨J, hn⟩ := Inv.grew I g hp (out := out.toList) (c := c) (by simpa using hg) (vals_of_ints hi) hlen
  exact ⟨.ref p, _, J, rfl, q ns p hs hm hl hn⟩
def bSortedSet (as zs : List PyData) : Prop := ∃ x ns, as = [x] ∧ intsB x = some ns ∧ ns.length < 4095 ∧ zs = (setL ns).map .int
theorem de_sortedSet {k : Nat} (hr : Room k X.A) (hc : X.calm = true) (hg : Gl X "sorted") (hm : X.mg "sorted" = none) (hg2 : Gl X "set") (hm2 : X.mg "set" = none) (h : DA E X [a] ga) (he : starEach [a] X.env = (false, eval a X.env) :: starEach [] X.env := by rfl) (hpl : (backTo pos2 (starEach [] X.env)).any (·.1) = false := by rfl)
    (he1 : starEach [.Call (.Name "set" p2) [a] [] pos2] X.env = (false, eval (.Call (.Name "set" p2) [a] [] pos2) X.env) :: starEach [] X.env := by rfl) (hpl1 : (backTo pos (starEach [] X.env)).any (·.1) = false := by rfl) :
    DE E X (.Call (.Name "sorted" p) [.Call (.Name "set" p2) [a] [] pos2] [] pos) (dBL bSortedSet ga) := by
  have h0 := pe_callTy (x := "set") (p := p2) (cr_setI hc) hg2 hm2 (by decide +kernel) h (by decide) (by decide) he hpl
  refine wkE (pe_callB (x := "sorted") (cr_sortedSetX hc (Room.u66 hr)) hg hm (by decide +kernel) (pa_cons h0 pa_nil he1) (by decide) (by decide) he1 hpl1) fun st H Q ⟨F, r, P, R, q0, kk⟩ => ⟨F, r, _, R, q0, fun ss r1 vs F1 H1 q1 A1 ok1 o1 => ?_⟩
  obtain ⟨xs, zs, e, ⟨x, ns, ex, ei, hl, ez⟩, q⟩ := q1
  subst ex ez
  have rd := reads A1.rel ok1 e
  cases rd with
  | cons rx t =>
    cases t
    obtain ⟨q', ev, hs⟩ := rdv_ints A1.rel.sub rx ei
    subst ev
    refine ⟨q', ns, rfl, hs, by have : scanBound = 4096 := rfl; omega, fun p' c np lc => ⟨p', _, c, rfl, upd_same, by omega, fun ms p'' m1 m2 m3 n2 => ?_⟩⟩
    have em : ms = setL ns := lt_uniq m1 (setL_lt ns) fun j => by rw [m2, setL_mem]; simp
    subst em
    have B := A1.rel.newH (o := SetO X.w p' (fun j => decide (j ∈ ns)) c) np
    exact yldL_of (A1.trans B) q kk p'' _ n2 (rps_ints _)
def biSortedSet : Bi
  | [x] => match intsB x with
    | some ns => onee (Nat.blt ns.length 4095) (some (.n (.list ((setL ns).map .int))))
    | none => none
  | _ => none
theorem biSortedSet_l (xs : List PyData) : biSortedSet [.list xs] = match intsD xs with
    | some ns => onee (Nat.blt ns.length 4095) (some (.n (.list ((setL ns).map .int))))
    | none => none := rfl2 rfl
theorem qe_sortedSet (hr : Room k X.A) (hc : X.calm = true) (hg : Gl X "sorted") (hm : X.mg "sorted" = none) (hg2 : Gl X "set") (hm2 : X.mg "set" = none) (h : FA PX E X [a] ha) (he : starEach [a] X.env = (false, eval a X.env) :: starEach [] X.env := by rfl) (hpl : (backTo pos2 (starEach [] X.env)).any (·.1) = false := by rfl)
    (he1 : starEach [.Call (.Name "set" p2) [a] [] pos2] X.env = (false, eval (.Call (.Name "set" p2) [a] [] pos2) X.env) :: starEach [] X.env := by rfl) (hpl1 : (backTo pos (starEach [] X.env)).any (·.1) = false := by rfl) :
    FE PX E X (.Call (.Name "sorted" p) [.Call (.Name "set" p2) [a] [] pos2] [] pos) (qB biSortedSet ha) := qe_biL (de_sortedSet hr hc hg hm hg2 hm2 h he hpl he1 hpl1) fun xs w hh => by
  unfold biSortedSet at hh
  split at hh
  · split at hh
    · rename_i ns e
      obtain ⟨h1, h2⟩ := onee_some hh
      cases h2
      exact ⟨_, rfl, _, ns, rfl, e, Nat.le_of_ble_eq_true h1, rfl⟩
    · cases hh
  · cases hh
theorem setS_ints {ns : List Int} (h : ns.length < 4095) : biSortedSet [.list (ns.map .int)] = some (.n (.list ((setL ns).map .int))) := by
  rw [biSortedSet_l]
  have : intsD (ns.map PyData.int) = some ns := by
    clear h
    induction ns with
    | nil => rfl
    | cons n ns ih =>
      show intsD (.int n :: ns.map .int) = _
      unfold intsD
      rw [ih]
  rw [this]
  have e : Nat.blt ns.length 4095 = true := Nat.ble_eq.mpr h
  show onee (Nat.blt ns.length 4095) _ = _
  rw [e]
  rfl
theorem setS_intsT {ns : List Int} (h : ns.length < 4095) : biSortedSet [.tuple (ns.map .int)] = some (.n (.list ((setL ns).map .int))) := setS_ints h
end
theorem boolsD_n : boolsD [] = some [] := rfl2 rfl
theorem boolsD_c (b : Bool) (xs : List PyData) : boolsD (.bool b :: xs) = (boolsD xs).map fun bs => b :: bs := by
  rw [boolsD]
  cases boolsD xs <;> rfl
theorem intsD_n : intsD [] = some [] := rfl2 rfl
theorem intsD_c (b : Int) (xs : List PyData) : intsD (.int b :: xs) = (intsD xs).map fun bs => b :: bs := by
  rw [intsD]
  cases intsD xs <;> rfl
/-! ### what is not told stays so -/
theorem need_nf {β : Type} {x : PyData} {k : Out β} (h : nfnB x = true) : need (nfnB x) k = k := by rw [h]; rfl
theorem need_false {β : Type} {k : Out β} : need false k = .bad := rfl2 rfl
theorem bind_bad {α β : Type} (k : α → Out β) : Out.bind .bad k = .bad := rfl2 rfl
theorem bind2_bad {α β γ : Type} (k : α → β → Out γ) : Out.bind2 .bad k = .bad := rfl2 rfl
theorem noX_bad {α : Type} : noX (.bad : Out α) = .bad := rfl2 rfl
theorem raiseIf_bad {α : Type} (b : Bool) : raiseIf b (.bad : Out α) = .bad := rfl2 rfl
end DL
set_option Elab.async false
set_option linter.all false
set_option autoImplicit false
set_option maxRecDepth 100000
set_option maxHeartbeats 4000000
/-! FLo: walks over dicts that are locked. -/
namespace DL
open PySem PySem.Spec PyProof.Rows L2 Out
section
variable {K : PySem.W.Frag} {E : Ent} {F H F' H' : Hp} {st : St} {r r' : DEnv} {d b p : Addr} {o v w : HO} {x : PyData} {xs : List V}
/-- a tuple that stands in the heap may join what stays -/
theorem Rel.adopt (R : Rel K E F H st r) (hb : H b = some (.tup xs)) : ∃ F', Aft K E F H st r F' H r ∧ F' b = some (.tup xs) := by
  cases q : F b with
  | some o =>
    refine ⟨F, .refl R, ?_⟩
    rcases R.sub b o q with z | ⟨z, w, z2⟩
    · rw [hb] at z
      rw [q, z]
    · rw [hb] at z2
      cases z2
  | none =>
    have g : Same F (upd F b (.tup xs)) := same_upd q
    have ob : ∀ a y, ObAt K F H a y → ObAt K (upd F b (.tup xs)) H a y := fun a y z => z.mono g (by
      rw [upd_ne]
      · exact z.some.2
      · intro e
        obtain ⟨⟨u, hu⟩, _⟩ := z.some
        subst e
        rw [hb] at hu
        cases hu
        exact z.ntup hb _ rfl) fun _ e => e
    refine ⟨upd F b (.tup xs), ⟨⟨fun a u e => ?_, R.grow.trans g, R.keep, R.ever, fun a u e1 e2 => ?_, R.len, fun i y e => ?_, fun i y e => ?_, fun i y e => ?_, R.sep⟩, ⟨g, fun _ _ e _ => e, fun _ u e => ⟨u, e⟩, fun a u e1 e2 _ => ?_⟩, fun _ m => m⟩, upd_same⟩
    · by_cases h : a = b
      · subst h
        rw [upd_same] at e
        cases e
        exact .inl hb
      · rw [upd_ne h] at e
        exact R.sub a u e
    · by_cases h : a = b
      · subst h; exact .inr ⟨xs, upd_same⟩
      · unfold NoF
        rw [upd_ne h]
        exact R.nofr a u e1 e2
    · obtain ⟨z, e1, e2⟩ := R.dat i y e
      exact ⟨z, e1, rpM g e2⟩
    · obtain ⟨z, e1, e2, e3⟩ := R.own i y e
      exact ⟨z, e1, e2, ob _ _ e3⟩
    · obtain ⟨z, e1, e2, e3, e4⟩ := R.bor i y e
      exact ⟨z, e1, e2, e3, ob _ _ e4⟩
    · by_cases h : a = b
      · subst h; exact .inr ⟨xs, upd_same⟩
      · unfold NoF
        rw [upd_ne h]
        exact .inl e2
/-- the entry told anew while the dict at d is held as v -/
def Ent.lck (E : Ent) (d : Addr) (o v : HO) : Ent := ⟨upd E.F0 d o, upd E.H0 d v, E.vs, E.bs.filter fun a => decide (a ≠ d)⟩
theorem lck_bs {a : Addr} : a ∈ (E.lck d o v).bs ↔ a ∈ E.bs ∧ a ≠ d := by
  unfold Ent.lck
  simp
/-- frozen objects are no names' own -/
theorem ob_ne {y : PyData} (hF : F d = some o) (z : ObAt K F H p y) : p ≠ d := fun e => by
  have := z.some.2
  rw [e, hF] at this
  cases this
theorem ob_upd {y : PyData} (hF : F d = some o) (z : ObAt K F H p y) : ObAt K F (upd H d v) p y :=
  z.mono (Same.refl _) z.some.2 fun u e => by rw [upd_ne (ob_ne hF z)]; exact e
/-- from H, where d stands as u, to where it stands as v -/
theorem Rel.lck (R : Rel K E F H st r) (hF : F d = some o) (hv : v = o ∨ (isDic o ∧ ∃ w, v = .frz w o)) (hu : ∃ u, H d = some u) : Rel K (E.lck d o v) F (upd H d v) st r := by
  refine ⟨fun a u e => ?_, fun a u e => ?_, fun a u e m => ?_, fun a u e => ?_, fun a u e1 e2 => ?_, R.len, R.dat, fun i y e => ?_, fun i y e => ?_, R.sep⟩
  · by_cases h : a = d
    · subst h
      rw [hF] at e
      cases e
      rw [upd_same]
      rcases hv with z | ⟨z, w, z2⟩
      · exact .inl (by rw [z])
      · exact .inr ⟨z, w, by rw [z2]⟩
    · rw [upd_ne h]
      exact R.sub a u e
  · have e : upd E.F0 d o a = some u := e
    by_cases h : a = d
    · subst h
      rw [upd_same] at e
      cases e
      exact hF
    · rw [upd_ne h] at e
      exact R.grow a u e
  · have e : upd E.H0 d v a = some u := e
    by_cases h : a = d
    · subst h
      rw [upd_same] at e ⊢
      exact e
    · rw [upd_ne h] at e ⊢
      exact R.keep a u e fun z => m (lck_bs.mpr ⟨z, h⟩)
  · have e : upd E.H0 d v a = some u := e
    by_cases h : a = d
    · subst h
      exact ⟨v, upd_same⟩
    · rw [upd_ne h] at e ⊢
      exact R.ever a u e
  · have e1 : upd E.H0 d v a = some u := e1
    have e2 : upd E.F0 d o a = none := e2
    by_cases h : a = d
    · subst h
      rw [upd_same] at e2
      cases e2
    · rw [upd_ne h] at e1 e2
      exact R.nofr a u e1 e2
  · obtain ⟨q, e1, e2, e3⟩ := R.own i y e
    refine ⟨q, e1, ?_, ob_upd hF e3⟩
    show upd E.H0 d v q = none
    rw [upd_ne (ob_ne hF e3)]
    exact e2
  · obtain ⟨q, e1, e2, e3, e4⟩ := R.bor i y e
    exact ⟨q, e1, e2, lck_bs.mpr ⟨e3, ob_ne hF e4⟩, ob_upd hF e4⟩
/-- and back, to where it stands as it stood -/
theorem Rel.back {st2 : St} {r2 : DEnv} {F2 H2 : Hp} {u : HO} (R : Rel K E F H st r) (hF : F d = some o) (hd : isDic o) (hu : H d = some u) (R2 : Rel K (E.lck d o v) F2 H2 st2 r2) : Rel K E F2 (upd H2 d u) st2 r2 := by
  have hF2 : F2 d = some o := R2.grow d o (show upd E.F0 d o d = _ from upd_same)
  have uo : u = o ∨ (isDic o ∧ ∃ w, u = .frz w o) := by
    rcases R.sub d o hF with z | ⟨z, w, z2⟩
    · rw [hu] at z; cases z; exact .inl rfl
    · rw [hu] at z2; cases z2; exact .inr ⟨z, w, rfl⟩
  refine ⟨fun a q e => ?_, fun a q e => ?_, fun a q e m => ?_, fun a q e => ?_, fun a q e1 e2 => ?_, R2.len, R2.dat, fun i y e => ?_, fun i y e => ?_, R2.sep⟩
  · by_cases h : a = d
    · subst h
      rw [hF2] at e
      cases e
      rw [upd_same]
      rcases uo with z | ⟨z, w, z2⟩
      · exact .inl (by rw [z])
      · exact .inr ⟨z, w, by rw [z2]⟩
    · rw [upd_ne h]
      exact R2.sub a q e
  · by_cases h : a = d
    · subst h
      have z := R.grow a q e
      rw [hF] at z
      rw [hF2, z]
    · exact R2.grow a q (show upd E.F0 d o a = some q by rw [upd_ne h]; exact e)
  · by_cases h : a = d
    · subst h
      rw [upd_same, ← hu]
      exact R.keep a q e m
    · rw [upd_ne h]
      exact R2.keep a q (show upd E.H0 d v a = some q by rw [upd_ne h]; exact e) fun z => m (lck_bs.mp z).1
  · by_cases h : a = d
    · subst h
      exact ⟨u, upd_same⟩
    · rw [upd_ne h]
      exact R2.ever a q (show upd E.H0 d v a = some q by rw [upd_ne h]; exact e)
  · by_cases h : a = d
    · subst h
      rcases R.nofr a q e1 e2 with n | ⟨xs, n⟩
      · rw [hF] at n; cases n
      · rw [hF] at n
        cases n
        exact hd.elim
    · exact R2.nofr a q (show upd E.H0 d v a = some q by rw [upd_ne h]; exact e1) (show upd E.F0 d o a = none by rw [upd_ne h]; exact e2)
  · obtain ⟨q, e1, e2, e3⟩ := R2.own i y e
    refine ⟨q, e1, ?_, ob_upd hF2 e3⟩
    have e2 : upd E.H0 d v q = none := e2
    rwa [upd_ne (ob_ne hF2 e3)] at e2
  · obtain ⟨q, e1, e2, e3, e4⟩ := R2.bor i y e
    exact ⟨q, e1, e2, (lck_bs.mp e3).1, ob_upd hF2 e4⟩
end
end DL
set_option Elab.async false
set_option linter.all false
set_option autoImplicit false
set_option maxRecDepth 100000
set_option maxHeartbeats 4000000
/-! FLp: for over dicts. -/
namespace DL
open PySem PySem.Spec PyProof.Rows L2 Out
section
variable {X : Cx} {e it tg : Expr} {body : List Stmt} {pos : Pos} {t te : TE} {ts : TS}
def NoFz (X : Cx) (d : Addr) : Prop := ∀ o' u', X.H_0 d ≠ some (.frz o' u')
/-- behind the expression a thing may be locked -/
def tLkin (X : Cx) (t : TE) : TE := fun σ H Q => t σ H fun x H1 => Q x H1 ∨ ∃ d u, H1 d = some u ∧ Mut (some u) ∧ ∀ od, NoFz X d → Q x (upd H1 d (.frz od u))
theorem pe_lkin (h : PE X e t) : PE X e (tLkin X t) := by
  refine ⟨fun pins s σ H Q I q => thn (h.run pins s σ H _ I q) fun v s1 ⟨x, H1, I1, r, q1⟩ => ?_⟩
  rcases q1 with q1 | ⟨d, u, hd, mu, q1⟩
  · exact ⟨x, H1, I1, r, q1⟩
  · obtain ⟨od, I2⟩ := I1.lock hd mu
    exact ⟨x, _, I2, r, q1 od (I1.nofrz hd mu)⟩
/-- at the end what was locked here may be unlocked -/
def Unl (X : Cx) (Q : Hp → Prop) (H : Hp) : Prop := Q H ∨ ∃ d od u, H d = some (.frz od u) ∧ NoFz X d ∧ Q (upd H d u)
theorem Unl.inv {pins : List (Addr × Obj)} {σ : L2.St} {H : Hp} {s : Shared} {Q : Hp → Prop} (I : Inv X pins σ H s) (q : Unl X Q H) : ∃ H', Inv X pins σ H' s ∧ Q H' := by
  rcases q with q | ⟨d, od, u, e, n, q⟩
  · exact ⟨H, I, q⟩
  · exact ⟨_, I.unlock e n, q⟩
def tUnl (X : Cx) (t : TS) : TS := fun D σ H => t ⟨fun σ' H' => Unl X (D.nx σ') H', fun v H' => Unl X (D.rt v) H', fun σ' H' => Unl X (D.bk σ') H', fun σ' H' => Unl X (D.ct σ') H'⟩ σ H
theorem ps_unl {st : Stmt} (h : PS X st ts) : PS X st (tUnl X ts) := by
  refine ⟨fun pins s σ H D I hw => thn (h.run pins s σ _ _ I hw) fun f s1 q => ?_⟩
  cases f with
  | next => obtain ⟨σ', H', I2, q⟩ := q; obtain ⟨H2, I3, q⟩ := q.inv I2; exact ⟨σ', H2, I3, q⟩
  | brk => obtain ⟨σ', H', I2, q⟩ := q; obtain ⟨H2, I3, q⟩ := q.inv I2; exact ⟨σ', H2, I3, q⟩
  | cont => obtain ⟨σ', H', I2, q⟩ := q; obtain ⟨H2, I3, q⟩ := q.inv I2; exact ⟨σ', H2, I3, q⟩
  | ret v => obtain ⟨x, σ', H', I2, r, q⟩ := q; obtain ⟨H2, I3, q⟩ := q.inv I2; exact ⟨x, σ', H2, I3, r, q⟩
theorem pg_any {α : Type} {g : α → TG} (h : ∀ a, PG X tg (g a)) : PG X tg (fun v σ H Q => ∃ a, g a v σ H Q) := ⟨fun pins s σ H v u Q I r ⟨a, q⟩ => (h a).run pins s σ H v u Q I r q⟩
theorem pss_any {α : Type} {g : α → TS} (h : ∀ a, PSs X body (g a)) : PSs X body (fun D σ H => ∃ a, g a D σ H) := ⟨fun pins s σ H D I ⟨a, q⟩ => (h a).run pins s σ H D I q⟩
end
section
variable {PX : Exn → Prop} {X : Cx} {K : PySem.W.Frag} {E : Ent} {F H F' H' : Hp} {st : St} {r r' : DEnv} {d b p : Addr} {o v w : HO} {x : PyData} {xs : List V} {u : V} {e it tg : Expr} {body : List Stmt} {pos : Pos}
/-- what a walk yields: data that stays, a key's tuple, a new pair -/
def YldA (K : PySem.W.Frag) (F H H' : Hp) (v : V) (x : PyData) : Prop := (H' = H ∧ Rp K F v x) ∨ (∃ b ks, v = .ref b ∧ H' = H ∧ H b = some (.tup (ks.map kV)) ∧ x = keysD ks) ∨
  (∃ T w1 w2 y1 y2, v = .ref T ∧ H T = none ∧ H' = upd H T (.tup [w1, w2]) ∧ x = .tuple [y1, y2] ∧ (Rp K F w1 y1 ∨ ∃ b ks, w1 = .ref b ∧ H b = some (.tup (ks.map kV)) ∧ y1 = keysD ks) ∧ Rp K F w2 y2)
theorem rps_ofKeys : ∀ ks : List Key, Rps K F (ks.map kV) (ks.map keyD)
  | [] => .nil
  | .inl i :: ks => .cons (.int i) (rps_ofKeys ks)
  | .inr i :: ks => .cons (.str i) (rps_ofKeys ks)
theorem yldA_rel (R : Rel K E F H st r) (h : YldA K F H H' u x) : ∃ F2, Rel K E F2 H' st r ∧ Same F F2 ∧ Rp K F2 u x := by
  rcases h with ⟨rfl, h⟩ | ⟨b, ks, rfl, rfl, hb, rfl⟩ | ⟨T, w1, w2, y1, y2, rfl, nT, rfl, rfl, h1, h2⟩
  · exact ⟨F, R, Same.refl _, h⟩
  · obtain ⟨F2, A, e⟩ := R.adopt hb
    exact ⟨F2, A.rel, A.stp.gf, .tup e (rps_ofKeys ks)⟩
  · have go : ∀ F2, Rel K E F2 H st r → Same F F2 → Rp K F2 w1 y1 → ∃ F3, Rel K E F3 (upd H T (.tup [w1, w2])) st r ∧ Same F F3 ∧ Rp K F3 (.ref T) (.tuple [y1, y2]) := fun F2 R2 s2 ok => by
      have B := R2.new (o := .tup [w1, w2]) nT
      exact ⟨_, B.rel, s2.trans B.stp.gf, .tup upd_same (.cons (rpM B.stp.gf ok) (.cons (rpM (s2.trans B.stp.gf) h2) .nil))⟩
    rcases h1 with h1 | ⟨b, ks, rfl, hb, rfl⟩
    · exact go F R (Same.refl _) h1
    · obtain ⟨F2, A, e⟩ := R.adopt hb
      exact go F2 A.rel A.stp.gf (.tup e (rps_ofKeys ks))
/-- a walk over what stays, while something is held -/
def DWalkL (K : PySem.W.Frag) (M : Hp → Prop) (F : Hp) (J : It) (xs : List PyData) : Prop := ∃ (G : Hp → Prop) (Y : Nat → Hp → V → Hp → Prop), Walk J xs.length G Y ∧ (∀ F1 H, Same F F1 → Sub F1 H → M H → G H) ∧
  ∀ i F1 H v H', i < xs.length → Same F F1 → Sub F1 H → M H → Y i H v H' → ∃ x, xs[i]? = some x ∧ YldA K F H H' v x
theorem yldA_mono (g : Same F F') (h : YldA K F H H' u x) : YldA K F' H H' u x := by
  rcases h with ⟨e, h⟩ | h | ⟨T, w1, w2, y1, y2, e1, nT, e2, e3, h1, h2⟩
  · exact .inl ⟨e, rpM g h⟩
  · exact .inr (.inl h)
  · exact .inr (.inr ⟨T, w1, w2, y1, y2, e1, nT, e2, e3, h1.imp (rpM g) id, rpM g h2⟩)
theorem rpk_at : ∀ {vs : List (PyData × V)} {ds : List (PyData × PyData)} {i : Nat} {k : PyData} {w : V}, Rpk K F vs ds → vs[i]? = some (k, w) → ∃ y, ds[i]? = some (k, y) ∧ Rp K F w y
  | _, _, _, _, _, .nil, e => by simp at e
  | _, _, 0, _, _, .cons h _, e => by
    simp only [List.getElem?_cons_zero, Option.some.injEq] at e
    cases e
    exact ⟨_, rfl, h⟩
  | _, _, i + 1, _, _, .cons _ t, e => by
    simp only [List.getElem?_cons_succ] at e ⊢
    exact rpk_at t e
theorem dwalk_keysK {od : Obj} {kvs : List (Key × V)} {ds : List (PyData × PyData)} (h : Rpk K F (dicK kvs) ds) : DWalkL K (fun H => H d = some (.frz od (.dK kvs))) F (Itk d od kvs) (ds.map (·.1)) := by
  have l : kvs.length = ds.length := by rw [← rpk_len h]; unfold dicK; rw [List.length_map]
  refine ⟨_, _, by rw [List.length_map, ← l]; exact walk_keys, fun _ _ _ _ m => m, fun i F1 H v H' hi _ _ _ y => ?_⟩
  obtain ⟨e, k, w, h1, h2⟩ := y
  have h3 : (dicK kvs)[i]? = some (keyD k, w) := by unfold dicK; rw [List.getElem?_map, h1]; rfl
  obtain ⟨y, h4, _⟩ := rpk_at h h3
  refine ⟨keyD k, by rw [List.getElem?_map, h4]; rfl, .inl ⟨e, ?_⟩⟩
  subst h2
  cases k with
  | inl i => exact .int i
  | inr i => exact .str i
theorem dwalk_keysT {od : Obj} {kvs : List (List Key × V)} {ds : List (PyData × PyData)} (h : Rpk K F (dicT kvs) ds) : DWalkL K (fun H => H d = some (.frz od (.dT kvs))) F (Itkt d od kvs) (ds.map (·.1)) := by
  have l : kvs.length = ds.length := by rw [← rpk_len h]; unfold dicT; rw [List.length_map]
  refine ⟨_, _, by rw [List.length_map, ← l]; exact walk_keysT, fun _ _ _ _ m => m, fun i F1 H v H' hi _ _ _ y => ?_⟩
  obtain ⟨e, k, w, q, h1, h2, h5⟩ := y
  have h3 : (dicT kvs)[i]? = some (keysD k, w) := by unfold dicT; rw [List.getElem?_map, h1]; rfl
  obtain ⟨y, h4, _⟩ := rpk_at h h3
  exact ⟨keysD k, by rw [List.getElem?_map, h4]; rfl, .inr (.inl ⟨q, k, h2, e, h5, rfl⟩)⟩
end
end DL
set_option Elab.async false
set_option linter.all false
set_option autoImplicit false
set_option maxRecDepth 100000
set_option maxHeartbeats 4000000
/-! FLq: dict(pairs). -/
namespace DL
open PySem PySem.Spec PyProof.Rows L2 Out
section
variable {X : Cx}
def putAllK {κ : Type} [DecidableEq κ] (acc : List (κ × V)) : List (κ × Addr × V) → List (κ × V)
  | [] => acc
  | q :: qs => putAllK (putK acc q.1 q.2.2) qs
def rDictT (K : PySem.W.Frag) : List V → Hp → VK → Prop := fun xs H Q => ∃ (a : Addr) (ps : List Addr) (kvs : List (List Key × Addr × V)), xs = [.ref a] ∧ SqL K H a (ps.map V.ref) ∧
  Paired (fun p kv => SqT K H p [.ref kv.2.1, kv.2.2] ∧ H kv.2.1 = some (.tup (kv.1.map kV))) ps kvs ∧ ∀ p, H p = none → Q (.ref p) (upd H p (.dT (putAllK [] kvs)))
theorem pairsT_of {pins : List (Addr × Obj)} {σ : L2.St} {H : Hp} {s : Shared} (I : Inv X pins σ H s) : ∀ {ps : List Addr} {kvs : List (List Key × Addr × V)}, Paired (fun p kv => SqT X.K H p [.ref kv.2.1, kv.2.2] ∧ H kv.2.1 = some (.tup (kv.1.map kV))) ps kvs →
    ∃ prs : List (List Key × Addr × Value), prs.length = ps.length ∧ Paired (fun (kv : List Key × Addr × V) (q : List Key × Addr × Value) => kv.1 = q.1 ∧ kv.2.1 = q.2.1 ∧ H kv.2.1 = some (.tup (kv.1.map kV)) ∧ RelV kv.2.2 q.2.2) kvs prs ∧
      ∀ (j : Nat) (q : List Key × Addr × Value), prs[j]? = some q → ∃ b : Addr, ps[j]? = some b ∧ IsTup s.heap b #[.ref q.2.1, q.2.2]
  | _, _, .nil => ⟨[], rfl, .nil, fun j q e => by simp at e⟩
  | _, _, .cons (a := p) (b := kv) h t => by
    obtain ⟨prs, hl, r, hp⟩ := pairsT_of I t
    obtain ⟨its, rv, ht, _⟩ := I.tuple h.1
    obtain ⟨u, y, ei, ru, ry⟩ := vals2 rv
    subst ei
    cases ru
    refine ⟨(kv.1, kv.2.1, y) :: prs, by rw [List.length_cons, List.length_cons, hl], .cons ⟨rfl, rfl, h.2, ry⟩ r, fun j q e => ?_⟩
    cases j with
    | zero =>
      have e' : (kv.1, kv.2.1, y) = q := Option.some.inj e
      subst e'
      exact ⟨p, rfl, ht⟩
    | succ j =>
      obtain ⟨b, e1, e2⟩ := hp j q (by simpa using e)
      exact ⟨b, by simpa using e1, e2⟩
theorem KT.putAllK {H : Hp} : ∀ {kvs : List (List Key × Addr × V)} {prs : List (List Key × Addr × Value)} {acc : List (List Key × V)} {xs : List (List Key × Addr × Value)}, KT H acc xs →
    Paired (fun (kv : List Key × Addr × V) (q : List Key × Addr × Value) => kv.1 = q.1 ∧ kv.2.1 = q.2.1 ∧ H kv.2.1 = some (.tup (kv.1.map kV)) ∧ RelV kv.2.2 q.2.2) kvs prs → KT H (putAllK acc kvs) (storedAllH xs prs)
  | [], [], acc, xs, r, _ => r
  | kv :: kvs, q :: prs, acc, xs, r, h => by
    cases h with
    | cons a b =>
      obtain ⟨k, b', v⟩ := q
      obtain ⟨e1, e2, e3, e4⟩ := a
      simp only at e1 e2 e4
      have := r.put kv.1 e3 e4
      rw [e2, e1] at this
      show KT H (DL.putAllK (putK acc kv.1 kv.2.2) kvs) (storedAllH (storedH xs k b' v) prs)
      rw [e1]
      exact KT.putAllK this b
theorem putAllK_len {κ : Type} [DecidableEq κ] : ∀ (kvs : List (κ × Addr × V)) (acc : List (κ × V)), (putAllK acc kvs).length ≤ acc.length + kvs.length
  | [], acc => by simp [putAllK]
  | q :: qs, acc => by
    have h := putAllK_len qs (putK acc q.1 q.2.2)
    have h2 : (putK acc q.1 q.2.2).length ≤ acc.length + 1 := by
      unfold putK
      split
      · rw [List.length_map]; omega
      · rw [List.length_append, List.length_singleton]; omega
    simp only [List.length_cons]
    show (putAllK (putK acc q.1 q.2.2) qs).length ≤ _
    omega
theorem call_dictTP (hc : X.calm = true) (hu : X.A.units + 66 < cLine) : CallR X (.type "dict") (rDictT X.K) := by
  intro pins s σ H xs us Q I r ⟨a, ps, kvs, ex, hq, hp, q⟩
  subst ex
  rw [Vals.ref1 r]
  obtain ⟨its, rv, pl, hz⟩ := I.list hq
  have ei := refs_at rv
  subst ei
  rw [List.length_map] at hz
  obtain ⟨prs, hl, rel, hpr⟩ := pairsT_of I hp
  obtain ⟨o, n, ho, hcl, hd, hdat⟩ := pl
  have lk : kvs.length = ps.length := (Paired.length hp).symm
  refine PySem.call_dict_pairsH (knd := tupleKind (mixKind X.prog X.w)) (ps := prs) (PairArg.list a (ps.map Value.ref).toArray (fun j => ps.getD j 0) (prs.map fun q => (Value.ref q.2.1, q.2.2))) (I.ok.hd hc) (show X.A.units + 1 + 1 < cLine by omega)
    ⟨⟨o, n, ho, hcl, hd, hdat⟩, by simp [hl], fun j k v e => ?_⟩ ⟨by rw [List.length_map], fun i key v e => ?_⟩ (fun h' hk x hx => ?_) (by rw [List.length_map, hl]; exact hz) fun h' tk hd' k => ?_
  · rw [List.getElem?_map] at e
    obtain ⟨q, eq, e⟩ := Option.map_eq_some_iff.mp e
    cases e
    obtain ⟨b, e1, e2⟩ := hpr j q eq
    have eb : ps.getD j 0 = b := by rw [List.getD_eq_getElem?_getD, e1, Option.getD_some]
    show (ps.map Value.ref).toArray[j]? = some (Value.ref (ps.getD j 0)) ∧ PairAt s.heap (ps.getD j 0) _ _
    rw [eb]
    refine ⟨by simp [e1], .inl ?_⟩
    obtain ⟨o', h1, h2, n', h3⟩ := e2
    exact ⟨o', h1, h2, n', h3⟩
  · have e : (prs.map fun q => (Value.ref q.2.1, q.2.2))[i]? = some (key, v) := e
    rw [List.getElem?_map] at e
    obtain ⟨q, eq, e⟩ := Option.map_eq_some_iff.mp e
    cases e
    exact ⟨q.1, q.2.1, eq, rfl⟩
  · have key : ∀ {l : List (List Key × Addr × V)} {m : List (List Key × Addr × Value)}, Paired (fun (kv : List Key × Addr × V) (q : List Key × Addr × Value) => kv.1 = q.1 ∧ kv.2.1 = q.2.1 ∧ H kv.2.1 = some (.tup (kv.1.map kV)) ∧ RelV kv.2.2 q.2.2) l m → ∀ x ∈ m, (tupleKind (mixKind X.prog X.w)).is s.heap x.1 x.2.1 := by
      intro l m q
      induction q with
      | nil => intro x hx; exact nomatch hx
      | @cons p q ps qs hq t ih =>
        intro x hx
        rcases List.mem_cons.mp hx with e | hx
        · subst e
          exact key_of I.hok (by rw [← hq.1, ← hq.2.1]; exact hq.2.2.1)
        · exact ih x hx
    obtain ⟨o', its', n', h1, h2, h3, h4⟩ := key rel x hx
    exact ⟨o', its', n', hk _ _ (Nat.ne_of_lt (Heap.lt_size h1)) (by simp) h1, h2, h3, h4⟩
  · have hm : (s.heap.objs.size == sysModules) = false := beq_eq_false_iff_ne.mpr (Nat.ne_of_gt I.big)
    have hlen : (putAllK [] kvs).length ≤ sizeLine := by
      refine Nat.le_trans (putAllK_len kvs []) ?_
      rw [List.length_nil, Nat.zero_add, lk]
      exact hz
    have hn : H s.heap.objs.size = none := I.hok.fresh (Nat.le_refl _)
    have kt : KT H (putAllK [] kvs) (storedAllH [] prs) := KT.putAllK .nil rel
    have kt2 : KT (upd H s.heap.objs.size (.dT (putAllK [] kvs))) (putAllK [] kvs) (storedAllH [] prs) := kt.keeps fun b ys e => by
      rw [upd_ne (fun z => by rw [z, hn] at e; cases e)]
      exact e
    obtain ⟨o2, es, ep, g1, g2, g3, g4, g5, g6⟩ := hd'
    exact ⟨.ref s.heap.objs.size, upd H s.heap.objs.size (.dT (putAllK [] kvs)), I.laid (t' := tk) (fun b o e => k b o (by simp) e) (Nat.le_refl _) (show ObjOk X.prog X.w _ _ _ (.dT (putAllK [] kvs)) from ⟨hlen, hm, _, kt2, o2, es, ep, g1, g2, g3, g4, g6⟩), rfl, q _ hn⟩
end
/-! ### in the layer -/
def pairsD : List PyData → Option (List (PyData × PyData))
  | [] => some []
  | .tuple [k, v] :: xs => (pairsD xs).map fun ps => (k, v) :: ps
  | _ :: _ => none
def putD (acc : List (PyData × PyData)) : List (PyData × PyData) → List (PyData × PyData)
  | [] => acc
  | q :: qs => putD (dPut acc q.1 q.2) qs
theorem pairsD_c (k v : PyData) (xs : List PyData) : pairsD (.tuple [k, v] :: xs) = (pairsD xs).map fun ps => (k, v) :: ps := by
  rw [pairsD]
theorem pairsD_map {α : Type} (f g : α → PyData) (xs : List α) : pairsD (xs.map fun x => .tuple [f x, g x]) = some (xs.map fun x => (f x, g x)) := by
  induction xs with
  | nil => rfl
  | cons x xs ih => rw [List.map_cons, pairsD_c, ih]; rfl
section
variable {PX : Exn → Prop} {X : Cx} {E : Ent} {K : PySem.W.Frag} {F H : Hp} {e a : Expr} {p p2 pos pos2 : Pos} {ga : DTA} {ha : FTA} {k : Nat}
def tkB (ps : List (PyData × PyData)) : Bool := ps.all fun q => isTp q.1 && keyB q.1
theorem pairs_rd (g : Sub F H) : ∀ {ws : List V} {xs : List PyData} {ps : List (PyData × PyData)}, Rps K F ws xs → pairsD xs = some ps → tkB ps = true →
    ∃ (pa : List Addr) (kvs : List (List Key × Addr × V)), ws = pa.map V.ref ∧ Paired (fun p kv => SqT K H p [.ref kv.2.1, kv.2.2] ∧ H kv.2.1 = some (.tup (kv.1.map kV))) pa kvs ∧
      ∀ (acc : List (List Key × V)) (ds : List (PyData × PyData)), Rpk K F (dicT acc) ds → Rpk K F (dicT (putAllK acc kvs)) (putD ds ps)
  | _, [], ps, h, e, _ => by
    cases h
    cases e
    exact ⟨[], [], rfl, .nil, fun acc ds h => h⟩
  | _, x :: xs, ps, h, e, b => by
    unfold pairsD at e
    split at e
    · rename_i e0; cases e0
    · rename_i k v xs' e0
      cases e0
      obtain ⟨ps', e2, e⟩ := Option.map_eq_some_iff.mp e
      subst e
      cases h with
      | cons h1 h2 =>
        unfold tkB at b
        rw [List.all_cons, Bool.and_eq_true, Bool.and_eq_true] at b
        obtain ⟨⟨b1, b2⟩, b3⟩ := b
        obtain ⟨pa, kvs, e3, e4, e5⟩ := pairs_rd g h2 e2 b3
        subst e3
        cases h1 with
        | tup hF hR =>
          cases hR with
          | cons r1 t =>
            cases t with
            | cons r2 t =>
              cases t
              rcases rp_key (H := H) r1 b2 with ⟨kk, ey, ew⟩ | ⟨ks, kb, ey, ew, hb⟩
              · subst ey
                exfalso
                cases kk <;> cases b1
              · subst ey ew
                exact ⟨_ :: pa, (ks, kb, _) :: kvs, rfl, .cons ⟨SqT.of (sub_tup g hF), sub_tup g hb⟩ e4, fun acc ds h => e5 _ _ (rpk_put (g := keysD) keysD_eqv ks r2 h)⟩
    · cases e
def bDict (as : List PyData) (zs : List (PyData × PyData)) : Prop := ∃ xs ps, as = [.list xs] ∧ pairsD xs = some ps ∧ tkB ps = true ∧ zs = putD [] ps
def dBD (B : List PyData → List (PyData × PyData) → Prop) (ha : DTA) (r : DEnv) (P : Vl → DEnv → Prop) : Prop := ha r fun ss r1 => ∃ xs z, VlsRd r1 ss xs ∧ B xs z ∧ P (.n (.dict z)) r1
theorem de_dict (hr : Room k X.A) (hc : X.calm = true) (hg : Gl X "dict") (hm : X.mg "dict" = none) (h : DA E X [a] ga) (he : starEach [a] X.env = (false, eval a X.env) :: starEach [] X.env := by rfl) (hpl : (backTo pos (starEach [] X.env)).any (·.1) = false := by rfl) :
    DE E X (.Call (.Name "dict" p) [a] [] pos) (dBD bDict ga) := by
  refine wkE (pe_callTy (x := "dict") (p := p) (call_dictTP hc (Room.u66 hr)) hg hm (by decide +kernel) h (by decide) (by decide) he hpl) fun st H Q ⟨F, r, P, R, q0, kk⟩ => ⟨F, r, _, R, q0, fun ss r1 vs F1 H1 q1 A1 ok1 o1 => ?_⟩
  obtain ⟨xs, zs, e, ⟨x, ps, ex, ep, tk, ez⟩, q⟩ := q1
  subst ex ez
  have rd := reads A1.rel ok1 e
  cases rd with
  | cons rx t =>
    cases t
    obtain ⟨q', ws, ev, hs, rs⟩ := rx.seq A1.rel.sub
    subst ev
    obtain ⟨pa, kvs, e1, e2, e3⟩ := pairs_rd A1.rel.sub rs ep tk
    subst e1
    refine ⟨q', pa, kvs, rfl, hs, e2, fun p' n => ?_⟩
    have B := A1.rel.newH (o := .dT (putAllK [] kvs)) n
    refine kk (.n (.dict (putD [] ps))) r1 _ _ _ q (A1.trans B) ⟨p', rfl, ⟨A1.rel.sub.free n, .inr ⟨_, upd_same, e3 [] [] .nil⟩⟩, fun m => ?_⟩ (A1.newBack (v := V.ref p') (s := .n (.dict (putD [] ps))) fun q e => by cases e; exact n)
    obtain ⟨⟨u, hu⟩, _⟩ := A1.rel.mutIn m
    rw [n] at hu
    cases hu
def biDict : Bi
  | [.list xs] => match pairsD xs with
    | some ps => onee (tkB ps) (some (.n (.dict (putD [] ps))))
    | none => none
  | _ => none
theorem biDict_l (xs : List PyData) : biDict [.list xs] = match pairsD xs with
    | some ps => onee (tkB ps) (some (.n (.dict (putD [] ps))))
    | none => none := rfl2 rfl
theorem qe_biD {B : List PyData → List (PyData × PyData) → Prop} {f : Bi} (h : DE E X e (dBD B (ofT PX ha))) (hf : ∀ xs w, f xs = some w → ∃ z, w = .n (.dict z) ∧ B xs z) : FE PX E X e (qB f ha) := fe_of h fun r P p => by
  unfold ofT qB at p
  refine wp2_mono (wp2_bind2 p) fun ss r1 q => ?_
  unfold biK at q
  obtain ⟨xs, e, q⟩ := wp2_opt q
  obtain ⟨w, ew, q⟩ := wp2_opt q
  obtain ⟨z, rfl, hb⟩ := hf _ _ ew
  exact ⟨xs, z, rdAll_ok e, hb, q⟩
theorem qe_dict (hr : Room k X.A) (hc : X.calm = true) (hg : Gl X "dict") (hm : X.mg "dict" = none) (h : FA PX E X [a] ha) (he : starEach [a] X.env = (false, eval a X.env) :: starEach [] X.env := by rfl) (hpl : (backTo pos (starEach [] X.env)).any (·.1) = false := by rfl) :
    FE PX E X (.Call (.Name "dict" p) [a] [] pos) (qB biDict ha) := qe_biD (de_dict hr hc hg hm h he hpl) fun xs w hh => by
  unfold biDict at hh
  split at hh
  · split at hh
    · rename_i ps e
      obtain ⟨h1, h2⟩ := onee_some hh
      cases h2
      exact ⟨_, rfl, _, ps, rfl, e, h1, rfl⟩
    · cases hh
  · cases hh
end
end DL
set_option Elab.async false
set_option linter.all false
set_option autoImplicit false
set_option maxRecDepth 100000
set_option maxHeartbeats 4000000
/-! FLr: min(list), max(list) of ints. -/
namespace DL
open PySem PySem.Spec PyProof.Rows L2 Out
section
variable {PX : Exn → Prop} {X : Cx} {E : Ent} {K : PySem.W.Frag} {F H : Hp} {e : Expr} {p pos : Pos} {ga : DTA} {ha : FTA} {k : Nat}
def bMinL : List PyData → PyData → Prop := fun as z => ∃ (n : Int) (ns : List Int), as = [.list ((n :: ns).map .int)] ∧ z = .int (ns.foldl min n)
def bMaxL : List PyData → PyData → Prop := fun as z => ∃ (n : Int) (ns : List Int), as = [.list ((n :: ns).map .int)] ∧ z = .int (ns.foldl max n)
theorem fmin_spec : ∀ (ns : List Int) (n : Int), ns.foldl min n ∈ n :: ns ∧ ∀ y ∈ n :: ns, ns.foldl min n ≤ y
  | [], n => by simp
  | m :: ns, n => by
    obtain ⟨h1, h2⟩ := fmin_spec ns (min n m)
    show ns.foldl min (min n m) ∈ _ ∧ ∀ y ∈ _, ns.foldl min (min n m) ≤ y
    have h3 := h2 _ List.mem_cons_self
    refine ⟨?_, fun y hy => ?_⟩
    · rcases List.mem_cons.mp h1 with e | e
      · rw [e]
        rcases Int.le_total n m with q | q
        · rw [Int.min_eq_left q]; simp
        · rw [Int.min_eq_right q]; simp
      · exact List.mem_cons_of_mem _ (List.mem_cons_of_mem _ e)
    · rcases List.mem_cons.mp hy with e | e
      · subst e; omega
      · rcases List.mem_cons.mp e with e | e
        · subst e; omega
        · exact h2 y (List.mem_cons_of_mem _ e)
theorem fmax_spec : ∀ (ns : List Int) (n : Int), ns.foldl max n ∈ n :: ns ∧ ∀ y ∈ n :: ns, y ≤ ns.foldl max n
  | [], n => by simp
  | m :: ns, n => by
    obtain ⟨h1, h2⟩ := fmax_spec ns (max n m)
    show ns.foldl max (max n m) ∈ _ ∧ ∀ y ∈ _, y ≤ ns.foldl max (max n m)
    have h3 := h2 _ List.mem_cons_self
    refine ⟨?_, fun y hy => ?_⟩
    · rcases List.mem_cons.mp h1 with e | e
      · rw [e]
        rcases Int.le_total n m with q | q
        · rw [Int.max_eq_right q]; simp
        · rw [Int.max_eq_left q]; simp
      · exact List.mem_cons_of_mem _ (List.mem_cons_of_mem _ e)
    · rcases List.mem_cons.mp hy with e | e
      · subst e; omega
      · rcases List.mem_cons.mp e with e | e
        · subst e; omega
        · exact h2 y (List.mem_cons_of_mem _ e)
theorem de_minL (hc : X.calm = true) (hg : Gl X "min") (hm : X.mg "min" = none) (h : DA E X [e] ga) (he : starEach [e] X.env = (false, eval e X.env) :: starEach [] X.env := by rfl) (hpl : (backTo pos (starEach [] X.env)).any (·.1) = false := by rfl) :
    DE E X (.Call (.Name "min" p) [e] [] pos) (dB bMinL ga) := by
  refine de_call (pe_callB (cr_min hc) hg hm (by decide +kernel) h (by decide) (by decide) he hpl) ?_
  intro F H vs xs z Q g rv ⟨n, ns, e, ez⟩ hy
  subst ez e
  cases rv with
  | cons rx t =>
    cases t
    obtain ⟨p, ws, ev, hs, rs⟩ := rx.seq g
    subst ev
    rw [rps_nums rs] at hs
    refine ⟨p, n :: ns, rfl, hs, Nat.succ_pos _, fun m h1 h2 => ?_⟩
    obtain ⟨g1, g2⟩ := fmin_spec ns n
    have : m = ns.foldl min n := Int.le_antisymm (h2 _ g1) (g2 _ h1)
    rw [this]
    exact hy.1 _ (.int _)
theorem de_maxL (hc : X.calm = true) (hg : Gl X "max") (hm : X.mg "max" = none) (h : DA E X [e] ga) (he : starEach [e] X.env = (false, eval e X.env) :: starEach [] X.env := by rfl) (hpl : (backTo pos (starEach [] X.env)).any (·.1) = false := by rfl) :
    DE E X (.Call (.Name "max" p) [e] [] pos) (dB bMaxL ga) := by
  refine de_call (pe_callB (cr_max hc) hg hm (by decide +kernel) h (by decide) (by decide) he hpl) ?_
  intro F H vs xs z Q g rv ⟨n, ns, e, ez⟩ hy
  subst ez e
  cases rv with
  | cons rx t =>
    cases t
    obtain ⟨p, ws, ev, hs, rs⟩ := rx.seq g
    subst ev
    rw [rps_nums rs] at hs
    refine ⟨p, n :: ns, rfl, hs, Nat.succ_pos _, fun m h1 h2 => ?_⟩
    obtain ⟨g1, g2⟩ := fmax_spec ns n
    have : m = ns.foldl max n := Int.le_antisymm (g2 _ h1) (h2 _ g1)
    rw [this]
    exact hy.1 _ (.int _)
def foldI (f : Int → Int → Int) : Option (List Int) → Option Vl
  | some (n :: ns) => some (.d (.int (ns.foldl f n)))
  | _ => none
theorem foldI_c (f : Int → Int → Int) (n : Int) (ns : List Int) : foldI f (some (n :: ns)) = some (.d (.int (ns.foldl f n))) := rfl2 rfl
def biMinL : Bi
  | [.list xs] => foldI min (intsD xs)
  | _ => none
def biMaxL : Bi
  | [.list xs] => foldI max (intsD xs)
  | _ => none
theorem biMinL_eq (xs : List PyData) : biMinL [.list xs] = foldI min (intsD xs) := rfl2 rfl
theorem biMaxL_eq (xs : List PyData) : biMaxL [.list xs] = foldI max (intsD xs) := rfl2 rfl
theorem foldI_some {f : Int → Int → Int} {xs : List PyData} {w : Vl} (h : foldI f (intsD xs) = some w) : ∃ (n : Int) (ns : List Int), xs = (n :: ns).map .int ∧ w = .d (.int (ns.foldl f n)) := by
  cases e : intsD xs with
  | none => rw [e] at h; cases h
  | some l =>
    rw [e] at h
    cases l with
    | nil => cases h
    | cons n ns =>
      cases h
      exact ⟨n, ns, intsD_some e, rfl⟩
theorem qe_minL (hc : X.calm = true) (hg : Gl X "min") (hm : X.mg "min" = none) (h : FA PX E X [e] ha) (he : starEach [e] X.env = (false, eval e X.env) :: starEach [] X.env := by rfl) (hpl : (backTo pos (starEach [] X.env)).any (·.1) = false := by rfl) :
    FE PX E X (.Call (.Name "min" p) [e] [] pos) (qB biMinL ha) := qe_bi (de_minL hc hg hm h he hpl) fun xs w h => by
  unfold biMinL at h
  split at h
  · obtain ⟨n, ns, e1, e2⟩ := foldI_some h
    exact ⟨_, e2, n, ns, by rw [e1], rfl⟩
  · cases h
theorem qe_maxL (hc : X.calm = true) (hg : Gl X "max") (hm : X.mg "max" = none) (h : FA PX E X [e] ha) (he : starEach [e] X.env = (false, eval e X.env) :: starEach [] X.env := by rfl) (hpl : (backTo pos (starEach [] X.env)).any (·.1) = false := by rfl) :
    FE PX E X (.Call (.Name "max" p) [e] [] pos) (qB biMaxL ha) := qe_bi (de_maxL hc hg hm h he hpl) fun xs w h => by
  unfold biMaxL at h
  split at h
  · obtain ⟨n, ns, e1, e2⟩ := foldI_some h
    exact ⟨_, e2, n, ns, by rw [e1], rfl⟩
  · cases h
end
end DL
set_option Elab.async false
set_option linter.all false
set_option autoImplicit false
set_option maxRecDepth 100000
set_option maxHeartbeats 4000000
/-! FLs: defs that call themselves: a depth beyond which nothing is told. -/
namespace DL
open PySem PySem.Spec PyProof.Rows L2 Out
section
variable {PX : Exn → Prop} {X : Cx} {E : Ent}
theorem qss_never : ∀ {rest : List Stmt}, FSs PX E X rest qsNever
  | [] => fss_of dss_nil fun P r p => (show False from p).elim
  | s :: rest => fss_of (dss_cons ds_never (qss_never (rest := rest))) fun P r p => (show False from p).elim
end
end DL
set_option Elab.async false
set_option linter.all false
set_option autoImplicit false
set_option maxRecDepth 100000
set_option maxHeartbeats 4000000
/-! FLt: sorted(x, reverse=True). -/
namespace DL
open PySem PySem.Spec PyProof.Rows L2 Out
section
variable {PX : Exn → Prop} {X : Cx} {E : Ent} {K : PySem.W.Frag} {F H : Hp} {e : Expr} {p pos : Pos} {ga : DTA} {ha : FTA} {k : Nat}
def srtR (ds : List PyData) : List PyData := msF (PySem.W.dataLe true id) ds.length ds
theorem srtR_ms (ds : List PyData) : srtR ds = ds.mergeSort (PySem.W.dataLe true id) := msF_eq _ _ _ (Nat.le_refl _)
def rSortRev (K : PySem.W.Frag) : List V → List V → Hp → VK → Prop := fun vs zs H Q => zs = [.bl true] ∧ ∃ (a : Addr) (xs : List V) (ds : List PyData) (P : V → PyData → Prop), vs = [.ref a] ∧ SqL K H a xs ∧ Paired P xs ds ∧ (∀ v, ∀ d ∈ ds, P v d → Dp K H v d) ∧ srtB ds = true ∧
  ∀ (ys : List V) (q : Addr), Paired P ys (srtR ds) → H q = none → Q (.ref q) (upd H q (.lst ys))
theorem cr_sortRev (hu : X.A.units + 66 < cLine) : CallRK X (.builtin "sorted") [Str.ofString "reverse"] (rSortRev X.K) := by
  intro pins s σ H vs zs us ws Q I r rz h
  obtain ⟨ez, a, xs, ds, P, rfl, hs, hp, hd, hb, q⟩ := h
  subst ez
  obtain ⟨h1, h2, h3, h4⟩ := srtB_ok hb
  rw [Vals.ref1 r]
  obtain ⟨z, ez, rz2⟩ := vals1 rz
  subst ez
  obtain rfl : z = .bool true := rz2
  show wpAny _ _ (call (.builtin "sorted") [.ref a] [(Str.ofString "reverse", .bool true)]) _ _ _
  obtain ⟨its, rv, hl, hz⟩ := I.list hs
  have he := each_of_pair rv hp
  have hL : its.length ≤ sizeLine := by rw [he.length]; exact h3
  have rd : PySem.W.EachIs (fun u d => ∃ as, Reads (PySem.W.sortingHeap (PySem.W.copyHeap s.heap its) (s.heap.objs.size + 1) its) u d as) its ds := he.mono fun u d ⟨hm, v, rr, pp⟩ => by
    obtain ⟨as, g⟩ := Dp.reads I d v u (hd v d hm pp) rr
    exact ⟨as, PyProof.Rows.Reads.keeps (fun b o e => PySem.W.sorting_copy_old e) g⟩
  refine PySem.W.sorted_rev_vals (b := true) hl.isList (sortsAt (A := X.A.in1.in1) (s := { s with heap := PySem.W.sortingHeap (PySem.W.copyHeap s.heap its) (s.heap.objs.size + 1) its }) rd h1 h2 (fun d hm => by have := h4 d hm; show X.A.units + 1 + 1 + d.depth < cLine; omega)) hL ?_
  have hsv := PySem.W.sortVals_data (enc := id) true he (by simpa using rd) (by simpa using h1)
  rw [List.map_id] at hsv
  generalize PySem.W.sortVals (PySem.W.dataKind (PySem.W.sortingHeap (PySem.W.copyHeap s.heap its) (s.heap.objs.size + 1) its) ds) true its its = out at hsv ⊢
  obtain ⟨ys, y1, y2⟩ := pair_of_each hsv
  have ly : ys.length ≤ sizeLine := by
    rw [Paired.length y2, List.length_mergeSort]
    exact h3
  obtain ⟨c, hcc⟩ := sortedHeap_at (vs := its) (out := out.toArray) (PySem.W.copyHeap_at s.heap its)
  have kept : ∀ b u, s.heap.get? b = some u → (sortedHeap (PySem.W.copyHeap s.heap its) (s.heap.objs.size + 1) its out.toArray).get? b = some u := fun b u e => by
    have q := PySem.W.copyHeap_old (vs := its) e
    rw [sortedHeap_old (Nat.ne_of_lt (Nat.lt_succ_of_lt (Heap.lt_size e))) (Heap.lt_size q)]
    exact q
  have big := Heap.lt_size hcc
  show EP X pins σ Q (.ref (s.heap.objs.size + 1)) { s with heap := sortedHeap (PySem.W.copyHeap s.heap its) (s.heap.objs.size + 1) its out.toArray }
  generalize sortedHeap (PySem.W.copyHeap s.heap its) (s.heap.objs.size + 1) its out.toArray = hp at hcc kept big ⊢
  obtain ⟨J, hn⟩ := Inv.grew (s2 := { s with heap := hp }) I ⟨kept, rfl, rfl, Nat.le_of_lt (Nat.lt_of_succ_lt big)⟩ (q := s.heap.objs.size + 1) (Nat.le_succ _) hcc y1 ly
  exact ⟨.ref _, _, J, rfl, q ys _ (by rw [srtR_ms]; exact y2) hn⟩
theorem pe_sortedRev {t : TA} {cj} {kp kq : Pos} (hr : Room k X.A) (hg : Gl X "sorted") (hm : X.mg "sorted" = none) (h : PA X [e] t) (he : backTo pos (starEach [e] X.env) = (false, eval e X.env) :: backTo pos (starEach [] X.env) := by rfl) (hpl : (backTo pos (starEach [e] X.env)).any (·.1) = false := by rfl) :
    PE X (.Call (.Name "sorted" p) [e] [⟨some (Str.ofString "reverse"), .Constant (.bool true) cj kp, kq⟩] pos) (tCB (fun vs H Q => rSortRev X.K vs [.bl true] H Q) t) :=
  pe_callBK (cr_sortRev (Room.u66 hr)) hg hm (by decide +kernel) h (pk_cons pe_bl pk_nil) (by decide) (by decide) he hpl
def bSortedR (as zs : List PyData) : Prop := ∃ ds, as = [.list ds] ∧ srtB ds = true ∧ zs = srtR ds
def biSortedR : Bi
  | [.list xs] => onee (srtB xs) (some (.n (.list (srtR xs))))
  | _ => none
theorem biSortedR_l (xs : List PyData) : biSortedR [.list xs] = onee (srtB xs) (some (.n (.list (srtR xs)))) := rfl2 rfl
theorem qe_sortedRev {cj} {kp kq : Pos} (hr : Room k X.A) (hg : Gl X "sorted") (hm : X.mg "sorted" = none) (h : FA PX E X [e] ha) (he : backTo pos (starEach [e] X.env) = (false, eval e X.env) :: backTo pos (starEach [] X.env) := by rfl) (hpl : (backTo pos (starEach [e] X.env)).any (·.1) = false := by rfl) :
    FE PX E X (.Call (.Name "sorted" p) [e] [⟨some (Str.ofString "reverse"), .Constant (.bool true) cj kp, kq⟩] pos) (qB biSortedR ha) := by
  refine qe_biL (B := bSortedR) (de_callL (pe_sortedRev hr hg hm h he hpl) ?_) ?_
  · intro F H vs xs zs Q g rv ⟨ds, e, hb, ez⟩ hy
    subst ez e
    obtain ⟨h1, h2, h3, h4⟩ := srtB_ok hb
    have nd : ∀ d ∈ ds, noDic d = true := fun d hd => alike_nd d (h1 d hd d hd)
    cases rv with
    | cons rx t =>
      cases t
      obtain ⟨q, ws, ev, hs, rs⟩ := rx.seq g
      subst ev
      exact ⟨rfl, q, ws, ds, Rp X.K F, rfl, hs, pair_of_rps rs, fun v d hd hp => toDp g hp (nd d hd), hb, fun ys l hys hl => hy l ys hl (rps_of_pair hys)⟩
  · intro xs w h
    unfold biSortedR at h
    split at h
    · obtain ⟨h1, h2⟩ := onee_some h
      cases h2
      exact ⟨_, rfl, _, rfl, h1, rfl⟩
    · cases h
end
end DL
set_option Elab.async false
set_option linter.all false
set_option autoImplicit false
set_option maxRecDepth 100000
set_option maxHeartbeats 4000000
/-! FLu: for over dicts: their keys. -/
namespace DL
open PySem PySem.Spec PyProof.Rows L2 Out
section
variable {PX : Exn → Prop} {X : Cx} {K : PySem.W.Frag} {E : Ent} {F H F' H' F1 H1 : Hp} {st : St} {r r' r1 : DEnv} {d b p : Addr} {o v w u : HO} {x : PyData} {xs : List PyData} {e it tg : Expr} {body : List Stmt} {pos : Pos} {J : It} {dg : DTG} {g : DTS} {P : DEnds} {D : Ends} {od : Obj}
theorem upd_self' {H : Hp} {a : Addr} {o : HO} (h : H a = some o) : upd H a o = H := by
  funext z
  by_cases e : z = a
  · rw [e, upd_same, h]
  · rw [upd_ne e]
/-- at the end of what is held: as it stood -/
theorem unl_back {Q : Hp → Prop} {F2 H2 : Hp} {st2 : St} {r2 : DEnv} (R : Rel K E F H st r) (hF : F d = some o) (hd : isDic o) (hu : H d = some u) (nz : u = o ∧ NoFz X d ∨ u = .frz od o) (R2 : Rel K (E.lck d o (.frz od o)) F2 H2 st2 r2)
    (h : ∀ H3, Rel K E F2 H3 st2 r2 → Q H3) : Unl X Q H2 := by
  have hk : H2 d = some (.frz od o) := R2.keep d _ (show upd E.H0 d (.frz od o) d = _ from upd_same) fun z => (lck_bs.mp z).2 rfl
  have B := Rel.back R hF hd hu R2
  rcases nz with ⟨rfl, nz⟩ | rfl
  · exact .inr ⟨d, od, u, hk, nz, h _ B⟩
  · rw [upd_self' hk] at B
    exact .inl (h _ B)
/-- own objects, back from what was held -/
theorem resE_back {F2 H2 : Hp} {v : V} {s : Sl} (hF : F2 d = some o) (h : ResE K (E.lck d o w) F2 H2 v s) : ResE K E F2 (upd H2 d u) v s := by
  cases s with
  | d x => exact h
  | l x =>
    obtain ⟨q, e, ob, n⟩ := h
    have n : upd E.H0 d w q = none := n
    refine ⟨q, e, ob_upd hF ob, ?_⟩
    rwa [upd_ne (ob_ne hF ob)] at n
  | b x => exact h
/-- a loop over what is held -/
theorem forD_main (R : Rel K E F1 H1 st r1) (hF : F1 d = some o) (hd : isDic o) (hu : H1 d = some u) (nz : u = o ∧ NoFz X d ∨ u = .frz od o) (w : DWalkL K (fun H => H d = some (.frz od o)) F1 J xs) (f : ForIn xs r1 dg g P) (k : EndsOk K E F1 P D) :
    ∃ W : Nat → Nat → St → Hp → Prop, (∃ m, W 0 m st (upd H1 d (.frz od o))) ∧ ∀ i m σ H, W i m σ H →
      (J.stop i H ∧ Unl X (D.nx σ) H) ∨ (J.go i H ∧ ∃ N : St → Hp → Prop, (∀ σ' H', N σ' H' → ∃ m', m' < m ∧ W (i + 1) m' σ' H') ∧ ∀ x H', J.yld i H x H' → (∃ E, tDG K E dg x σ H' fun σ2 H2 => ∃ E, tDS K E g
        { (⟨fun σ' H' => Unl X (D.nx σ') H', fun v H' => Unl X (D.rt v) H', fun σ' H' => Unl X (D.bk σ') H', fun σ' H' => Unl X (D.ct σ') H'⟩ : Ends) with nx := N, ct := N, bk := fun σ' H' => Unl X (D.nx σ') H' } σ2 H2)) := by
  obtain ⟨I, i0, step, fin⟩ := f
  obtain ⟨G, Y, wk, gg, yy⟩ := w
  have L : Rel K (E.lck d o (.frz od o)) F1 (upd H1 d (.frz od o)) st r1 := R.lck hF (.inr ⟨hd, od, rfl⟩) ⟨u, hu⟩
  have held : ∀ {F2 H2 st2 r2}, Rel K (E.lck d o (.frz od o)) F2 H2 st2 r2 → H2 d = some (.frz od o) := fun R2 => R2.keep d _ (show upd E.H0 d (.frz od o) d = _ from upd_same) fun z => (lck_bs.mp z).2 rfl
  refine for_it (D := ⟨fun σ' H' => Unl X (D.nx σ') H', fun v H' => Unl X (D.rt v) H', fun σ' H' => Unl X (D.bk σ') H', fun σ' H' => Unl X (D.ct σ') H'⟩) (g := fun x σ H' Q => ∃ E, tDG K E dg x σ H' Q) (tb := fun D σ H => ∃ E, tDS K E g D σ H)
    wk (fun i st' H' => ∃ F2 r2, Rel K (E.lck d o (.frz od o)) F2 H' st' r2 ∧ Same F1 F2 ∧ I (xs.take i) r2) ⟨F1, r1, L, Same.refl _, by rw [List.take_zero]; exact i0⟩ (fun i st' H' _ ⟨F2, r2, R2, s2, _⟩ => gg F2 H' s2 R2.sub (held R2)) ?_ ?_
  · rintro i v st' H2 H3 hi ⟨F2, r2, R2, s2, i2⟩ y
    obtain ⟨x, ex, alt⟩ := yy i F2 H2 v H3 hi s2 R2.sub (held R2) y
    obtain ⟨e1, e2⟩ := split_at ex
    have bd := step _ x _ r2 e1 i2
    rw [← e2] at bd
    obtain ⟨F3, R3, s3, ok⟩ := yldA_rel R2 (yldA_mono s2 alt)
    refine ⟨_, F3, r2, _, x, R3, ok, bd, fun r4 st4 F4 H4 p4 R4 s4 => ⟨_, F4, r4, _, R4, p4,
      fun r5 st5 F5 H5 p5 R5 s5 => ⟨F5, r5, R5, ((s2.trans s3).trans s4).trans s5, p5⟩, fun s r5 v5 st5 F5 H5 p5 R5 ok5 => ?_,
      fun r5 st5 F5 H5 p5 R5 s5 => unl_back R hF hd hu nz R5 fun H6 R6 => k.nx _ _ _ _ p5 R6 (((s2.trans s3).trans s4).trans s5), fun r5 st5 F5 H5 p5 R5 s5 => ⟨F5, r5, R5, ((s2.trans s3).trans s4).trans s5, p5⟩⟩⟩
    have hF5 : F5 d = some o := R5.grow d o (show upd E.F0 d o d = _ from upd_same)
    have hk := held R5
    have B := Rel.back R hF hd hu R5
    have q := resE_back (u := u) hF5 ok5
    rcases nz with ⟨rfl, nz⟩ | rfl
    · exact .inr ⟨d, od, u, hk, nz, k.rt _ _ _ _ _ _ p5 B q⟩
    · rw [upd_self' hk] at B q
      exact .inl (k.rt _ _ _ _ _ _ p5 B q)
  · rintro st' H' ⟨F2, r2, R2, s2, i2⟩
    rw [List.take_length] at i2
    exact unl_back R hF hd hu nz R2 fun H6 R6 => k.nx _ _ _ _ (fin _ i2) R6 s2
end
/-! ### for over a dict's keys -/
def forDK (t : FTg) (g : FS) (s : Vl) (r : DEnv) : Out Fl := match s with
  | .d (.dict ds) => need (nfnB (.dict ds)) (noX (forL t g (ds.map (·.1)) r))
  | _ => .bad
def qsForD (fa : FT) (t : FTg) (g : FS) (r : DEnv) : Out Fl := bind2 (qFz fa r) (forDK t g)
theorem forDK_eq (t : FTg) (g : FS) (ds : List (PyData × PyData)) (r : DEnv) : forDK t g (.d (.dict ds)) r = need (nfnB (.dict ds)) (noX (forL t g (ds.map (·.1)) r)) := rfl2 rfl
theorem qsForD_eq (fa : FT) (t : FTg) (g : FS) (r : DEnv) : qsForD fa t g r = bind2 (qFz fa r) (forDK t g) := rfl2 rfl
section
variable {PX : Exn → Prop} {X : Cx} {E : Ent} {it tg : Expr} {body : List Stmt} {pos : Pos} {fa : FT}
theorem qs_forD {t : FTg} {g : FS} (hps : PassesOwn (model X.prog X.w) X.A X.env X.xe) (hc : X.calm = true) (hi : FE PX E X it fa) (hg : ∀ E, PG X tg (tDG X.K E (ofG PX0 t))) (hb : ∀ E, FSs PX0 E X body g)
    (hs : ∀ x, foldedSetIterable it X.env x = pure x := by intro _; rfl) : FSt PX E X (.For tg it body [] pos) (qsForD fa t g) := by
  refine wkS (ps_unl (ps_for hps hc (pi_keys (pe_lkin (de_fz hi))) (pg_any hg) (pss_any hb) hs)) fun D st H ⟨F, r, P, R, p, k⟩ => ?_
  have p : (bind2 (qFz fa r) (forDK t g)).wp PX (Fl.to P) := p
  refine ⟨F, r, _, R, qFz_d (PX := PX) (wp_bind2 p), fun s r1 v F1 H1 q1 A1 ok n => ?_⟩
  unfold forDK at q1
  split at q1
  · rename_i ds
    obtain ⟨nf, q⟩ := wp_need q1
    have f := forL_d (noX_wp (PY := PX0) q)
    have k1 := k.mono A1.stp.gf
    cases (show Rp X.K F1 v (.dict ds) from ok) with
    | dik h1 h2 =>
      rcases A1.rel.sub _ _ h1 with z | ⟨z, od, z2⟩
      · exact .inr ⟨_, _, z, trivial, fun od nz => ⟨_, od, rfl, .inl ⟨_, upd_same, forD_main A1.rel h1 trivial z (.inl ⟨rfl, nz⟩) (dwalk_keysK h2) f k1⟩⟩⟩
      · have m := forD_main (X := X) A1.rel h1 trivial z2 (.inr rfl) (dwalk_keysK h2) f k1
        rw [upd_self' z2] at m
        exact .inl ⟨_, od, rfl, .inl ⟨_, z2, m⟩⟩
    | dit h1 h2 =>
      rcases A1.rel.sub _ _ h1 with z | ⟨z, od, z2⟩
      · exact .inr ⟨_, _, z, trivial, fun od nz => ⟨_, od, rfl, .inr ⟨_, upd_same, forD_main A1.rel h1 trivial z (.inl ⟨rfl, nz⟩) (dwalk_keysT h2) f k1⟩⟩⟩
      · have m := forD_main (X := X) A1.rel h1 trivial z2 (.inr rfl) (dwalk_keysT h2) f k1
        rw [upd_self' z2] at m
        exact .inl ⟨_, od, rfl, .inr ⟨_, z2, m⟩⟩
    | fn _ => cases nf
  · exact q1.elim
end
end DL
set_option Elab.async false
set_option linter.all false
set_option autoImplicit false
set_option maxRecDepth 100000
set_option maxHeartbeats 4000000
/-! FLv: comprehensions over dicts: their keys. -/
namespace DL
open PySem PySem.Spec PyProof.Rows L2 Out
section
variable {PX : Exn → Prop} {X : Cx} {K : PySem.W.Frag} {E : Ent} {F H F' H' F1 H1 : Hp} {st : St} {r r' r1 : DEnv} {d b p : Addr} {o u : HO} {v : V} {x : PyData} {xs : List PyData} {J : It} {od : Obj} {s : Vl}
theorem yldA_aft (R : Rel K E F H st r) (h : YldA K F H H' v x) : ∃ F2, Aft K E F H st r F2 H' r ∧ Rp K F2 v x := by
  rcases h with ⟨rfl, h⟩ | ⟨b, ks, rfl, rfl, hb, rfl⟩ | ⟨T, w1, w2, y1, y2, rfl, nT, rfl, rfl, h1, h2⟩
  · exact ⟨F, .refl R, h⟩
  · obtain ⟨F2, A, e⟩ := R.adopt hb
    exact ⟨F2, A, .tup e (rps_ofKeys ks)⟩
  · have go : ∀ F2, Aft K E F H st r F2 H r → Rp K F2 w1 y1 → ∃ F3, Aft K E F H st r F3 (upd H T (.tup [w1, w2])) r ∧ Rp K F3 (.ref T) (.tuple [y1, y2]) := fun F2 A ok => by
      have B := A.rel.new (o := .tup [w1, w2]) nT
      exact ⟨_, A.trans B, .tup upd_same (.cons (rpM B.stp.gf ok) (.cons (rpM (A.stp.gf.trans B.stp.gf) h2) .nil))⟩
    rcases h1 with h1 | ⟨b, ks, rfl, hb, rfl⟩
    · exact go F (.refl R) h1
    · obtain ⟨F2, A, e⟩ := R.adopt hb
      exact go F2 A (.tup e (rps_ofKeys ks))
/-- a comprehension over such a walk -/
theorem lc_core {M : Hp → Prop} {g : TG} {dg : DTG} {tt : DTT} {fe : DT} {Tt : TT} {Te : TE} {own : List Nat} {P : Vl → DEnv → Prop} {Q : VK} (hT : ∀ σ H Q, tDT K E tt σ H Q → Tt σ H Q) (hE : ∀ σ H Q, tD K E (dFz fe) σ H Q → Te σ H Q) (ct : CT K E own g dg) (R : Rel K E F1 H1 st r1) (hM : ∀ F H st r, Rel K E F H st r → M H) (w : DWalkL K M F1 J xs) (f : LcIn xs r1 dg tt fe own P)
    (k : ∀ s r' v F' H', P s r' → Aft K E F1 H1 st r1 F' H' r' → VlOk K F' H' st r' v s → New H1 v s → Q v H') (D : Addr) (nD : H1 D = none) :
    ∃ W : Nat → Nat → Hp → Prop, (∃ m, W 0 m (upd H1 D (.lst []))) ∧ ∀ i m H, W i m H →
      (J.stop i H ∧ Q (.ref D) H) ∨ (J.go i H ∧ ∃ Nx : Hp → Prop, (∀ H', Nx H' → ∃ m', m' < m ∧ W (i + 1) m' H') ∧ ∀ x H', J.yld i H x H' → g x (wipe st own) H' fun σ2 H2 => wipe σ2 own = wipe st own ∧ Tt σ2 H2 fun b H3 =>
        if b = true then Te σ2 H3 fun y H4 => ∃ acc, H4 D = some (.lst acc) ∧ acc.length < sizeLine ∧ Nx (upd H4 D (.lst (acc ++ [y]))) else Nx H3) := by
  obtain ⟨I, i0, step, fin⟩ := f
  obtain ⟨G, Y, wk, gg, yy⟩ := w
  have R1 := R.wiped own
  have e0 : E.H0 D = none := R.fresh0 nD
  have W1 : Aft K E F1 H1 (wipe st own) (wipeD r1 own) F1 (upd H1 D (.lst [])) (wipeD r1 own) := R1.newH nD
  refine lc_it (Qd := fun H => Q (.ref D) H) wk (fun i H' => ∃ F2 r2 acc vs, Aft K E F1 H1 (wipe st own) (wipeD r1 own) F2 H' r2 ∧ H' D = some (.lst vs) ∧ F2 D = none ∧ ¬ MutA (wipe st own) r2 D ∧ Rps K F2 vs acc ∧ I (xs.take i) acc r2)
    ⟨F1, _, [], [], W1, upd_same, R.sub.free nD, R1.notMut nD, .nil, by rw [List.take_zero]; exact i0⟩ (fun i H' _ ⟨F2, r2, _, _, A2, _⟩ => gg F2 H' A2.stp.gf A2.rel.sub (hM _ _ _ _ A2.rel)) ?_ ?_
  · rintro i v H2 H3 hi ⟨F2, r2, acc, vs, A2, hD, fD, mD, ra, i2⟩ y
    obtain ⟨x, ex, alt⟩ := yy i F2 H2 v H3 hi A2.stp.gf A2.rel.sub (hM _ _ _ _ A2.rel) y
    obtain ⟨e1, e2⟩ := split_at ex
    have body := step _ x _ acc r2 e1 i2
    rw [← e2] at body
    obtain ⟨F3, A23, ok⟩ := yldA_aft A2.rel (yldA_mono A2.stp.gf alt)
    have A3 := A2.trans A23
    have s3 := A23.stp.gf
    have hD3 : H3 D = some (.lst vs) := A23.stp.keep D _ hD mD
    have fD3 : F3 D = none := (A23.stp.nofr D _ hD fD mD).fin A23.rel.sub hD3 fun _ z => nomatch z
    refine ct v (wipe st own) H3 _ F3 r2 _ x A3.rel ok body fun r4 st4 p4 R4 w4 m4 => ⟨w4.trans wipe_idem, hT _ _ _ ⟨F3, r4, _, R4, p4, fun b r5 F5 H5 q5 A5 => ?_⟩⟩
    have mD4 : ¬ MutA st4 r4 D := by rw [m4]; exact mD
    have toW : ∀ {F6 H6 r6}, Aft K E F3 H3 st4 r4 F6 H6 r6 → Aft K E F1 H1 (wipe st own) (wipeD r1 own) F6 H6 (wipeD r6 own) ∧ H6 D = some (.lst vs) ∧ F6 D = none ∧ ¬ MutA st4 r6 D ∧ ¬ MutA (wipe st own) (wipeD r6 own) D := by
      intro F6 H6 r6 A6
      have z1 : H6 D = some (.lst vs) := A6.stp.keep D _ hD3 mD4
      have z2 : F6 D = none := (A6.stp.nofr D _ hD3 fD3 mD4).fin A6.rel.sub z1 fun _ z => nomatch z
      have z3 : ¬ MutA st4 r6 D := fun m => mD4 (A6.mu D m)
      have ew : wipe st4 own = wipe st own := w4.trans wipe_idem
      have RW : Rel K E F6 H6 (wipe st own) (wipeD r6 own) := by rw [← ew]; exact A6.rel.wiped own
      have mm : ∀ a, MutA (wipe st own) (wipeD r6 own) a → MutA (wipe st own) r2 a := fun a m => by
        rw [← ew] at m
        have m1 := A6.mu a (mutA_wiped m)
        rw [m4] at m1
        exact m1
      refine ⟨⟨RW, ⟨A3.stp.gf.trans A6.stp.gf, fun a o e m => ?_, fun a o e => ?_, fun a o e n m => ?_⟩, fun a m => A3.mu a (mm a m)⟩, z1, z2, z3, fun m => mD (mm D m)⟩
      · refine A6.stp.keep a o (A3.stp.keep a o e m) fun z => m (A3.mu a ?_)
        rw [m4] at z
        exact z
      · obtain ⟨u, q⟩ := A3.stp.ever a o e
        exact A6.stp.ever a u q
      · refine (A3.stp.nofr a o e n m).then A6.stp.gf fun n' => A6.stp.nofr a o (A3.stp.keep a o e m) n' fun z => m (A3.mu a ?_)
        rw [m4] at z
        exact z
    cases b with
    | false =>
      rw [if_neg Bool.false_ne_true] at q5
      show if false = true then _ else _
      rw [if_neg Bool.false_ne_true]
      obtain ⟨z1, z2, z3, z4, z5⟩ := toW A5
      exact ⟨F5, _, acc, vs, z1, z2, z3, z5, rpsM (s3.trans A5.stp.gf) ra, q5⟩
    | true =>
      rw [if_pos rfl] at q5
      show if true = true then _ else _
      rw [if_pos rfl]
      refine hE _ _ _ ⟨F5, r5, _, A5.rel, q5, fun s r6 u F6 H6 q6 A6 ok6 n6 => ?_⟩
      obtain ⟨y, es, hl, i6⟩ := q6
      subst es
      obtain ⟨z1, z2, z3, z4, z5⟩ := toW (A5.trans A6)
      have ra6 := rpsM ((s3.trans A5.stp.gf).trans A6.stp.gf) ra
      exact ⟨vs, z2, by rw [rps_len ra6]; exact hl, F6, _, acc ++ [y], _, z1.write e0 nD z3 z5 ⟨_, z2⟩, upd_same, z3, z5, rps_app ra6 (.cons ok6 .nil), i6⟩
  · rintro H' ⟨F2, r2, acc, vs, A2, hD, fD, mD, ra, i2⟩
    rw [List.take_length] at i2
    have A3 := A2.unwiped R
    refine k (.n (.list acc)) _ _ F2 H' (fin acc r2 i2) A3 ⟨D, rfl, ⟨vs, fD, hD, ra⟩, fun m => mD ?_⟩ fun p e => ?_
    · obtain ⟨j, s, h1, h2, h3⟩ := m
      rcases backD_some h1 with ⟨a, b⟩ | ⟨_, y, e, _⟩
      · exact ⟨j, s, b, h2, by rw [wipe_at a]; exact h3⟩
      · subst e; cases h2
    · cases e
      exact nD
/-- behind what was held -/
theorem Aft.back {F2 H2 : Hp} (R : Rel K E F1 H1 st r1) (hF : F1 d = some o) (hd : isDic o) (hu : H1 d = some u) (A : Aft K (E.lck d o (.frz od o)) F1 (upd H1 d (.frz od o)) st r1 F2 H2 r') : Aft K E F1 H1 st r1 F2 (upd H2 d u) r' := by
  refine ⟨Rel.back R hF hd hu A.rel, ⟨A.stp.gf, fun a w e m => ?_, fun a w e => ?_, fun a w e n m => ?_⟩, A.mu⟩
  · by_cases h : a = d
    · subst h
      rw [upd_same, ← hu]
      exact e
    · rw [upd_ne h]
      exact A.stp.keep a w (by rw [upd_ne h]; exact e) m
  · by_cases h : a = d
    · subst h
      exact ⟨u, upd_same⟩
    · rw [upd_ne h]
      exact A.stp.ever a w (by rw [upd_ne h]; exact e)
  · have h : a ≠ d := fun h => by rw [h, hF] at n; cases n
    exact A.stp.nofr a w (by rw [upd_ne h]; exact e) n m
theorem vlOk_back {F2 H2 : Hp} (hF : F2 d = some o) (h : VlOk K F2 H2 st r' v s) : VlOk K F2 (upd H2 d u) st r' v s := by
  cases s with
  | d x => exact h
  | v i => exact h
  | n x =>
    obtain ⟨q, e, ob, n⟩ := h
    exact ⟨q, e, ob_upd hF ob, n⟩
theorem new_back (h : New (upd H1 d (.frz od o)) v s) : New H1 v s := by
  cases s with
  | d x => trivial
  | v i => trivial
  | n x =>
    intro p e
    have q := h p e
    by_cases z : p = d
    · subst z
      rw [upd_same] at q
      cases q
    · rwa [upd_ne z] at q
/-- behind an expression what was locked may be unlocked -/
def tUnlE (X : Cx) (t : TE) : TE := fun σ H Q => t σ H fun x H1 => Unl X (Q x) H1
theorem pe_unl {e : Expr} {t : TE} (h : PE X e t) : PE X e (tUnlE X t) := by
  refine ⟨fun pins s σ H Q I q => thn (h.run pins s σ H _ I q) fun v s1 ⟨x, H1, I1, r, q1⟩ => ?_⟩
  obtain ⟨H2, I2, q2⟩ := q1.inv I1
  exact ⟨x, H2, I2, r, q2⟩
def lcDK (t : FTg) (tt : FTT) (fe : FT) (own : List Nat) (s : Vl) (r : DEnv) : Out (Vl × DEnv) := match s with
  | .d (.dict ds) => need (nfnB (.dict ds)) (lcK1 t tt fe own (ds.map (·.1)) r)
  | _ => .bad
def qLcD (fa : FT) (t : FTg) (tt : FTT) (fe : FT) (own : List Nat) (r : DEnv) : Out (Vl × DEnv) := bind2 (qFz fa r) (lcDK t tt fe own)
theorem lcDK_eq (t : FTg) (tt : FTT) (fe : FT) (own : List Nat) (ds : List (PyData × PyData)) (r : DEnv) : lcDK t tt fe own (.d (.dict ds)) r = need (nfnB (.dict ds)) (lcK1 t tt fe own (ds.map (·.1)) r) := rfl2 rfl
theorem qLcD_eq (fa : FT) (t : FTg) (tt : FTT) (fe : FT) (own : List Nat) (r : DEnv) : qLcD fa t tt fe own r = bind2 (qFz fa r) (lcDK t tt fe own) := rfl2 rfl
end
section
variable {PX : Exn → Prop} {X : Cx} {E : Ent} {tg : Expr} {pos : Pos} {fa : FT} {st : St} {H : Hp} {Q : VK}
theorem lcD_main {g : TG} {t : FTg} {tt : FTT} {fe : FT} {own : List Nat} (ct : ∀ E, CT X.K E own g (ofG PX0 t)) (h : tD X.K E (ofT PX (qLcD fa t tt fe own)) st H Q) :
    tUnlE X (tLc (iKeys (tLkin X (tD X.K E (dFz (ofT PX fa))))) g (fun σ H Q => ∃ E, tDT X.K E (ofT PX0 tt) σ H Q) (fun σ H Q => ∃ E, tD X.K E (dFz (ofT PX0 fe)) σ H Q) own) st H Q := by
  obtain ⟨F, r, P, R, p, k⟩ := h
  have p : (bind2 (qFz fa r) (lcDK t tt fe own)).wp2 PX P := p
  refine ⟨F, r, _, R, qFz_d (PX := PX) (wp2_bind2 p), fun s r1 v F1 H1 q1 A1 ok n => ?_⟩
  unfold lcDK at q1
  split at q1
  · rename_i ds
    obtain ⟨nf, q⟩ := wp2_need q1
    have f := lcL_d q
    -- a walk over what is held at d
    have go : ∀ {d : Addr} {o u : HO} {od : Obj} {J : It}, F1 d = some o → isDic o → H1 d = some u → (u = o ∧ NoFz X d ∨ u = .frz od o) → DWalkL X.K (fun H => H d = some (.frz od o)) F1 J (ds.map (·.1)) →
        ∀ D, upd H1 d (.frz od o) D = none → ∃ W : Nat → Nat → Hp → Prop, (∃ m, W 0 m (upd (upd H1 d (.frz od o)) D (.lst []))) ∧ ∀ i m H, W i m H →
        (J.stop i H ∧ Unl X (Q (.ref D)) H) ∨ (J.go i H ∧ ∃ Nx : Hp → Prop, (∀ H', Nx H' → ∃ m', m' < m ∧ W (i + 1) m' H') ∧ ∀ x H', J.yld i H x H' → g x (wipe st own) H' fun σ2 H2 => wipe σ2 own = wipe st own ∧ (fun σ H Q => ∃ E, tDT X.K E (ofT PX0 tt) σ H Q : TT) σ2 H2 fun b H3 =>
          if b = true then (fun σ H Q => ∃ E, tD X.K E (dFz (ofT PX0 fe)) σ H Q : TE) σ2 H3 fun y H4 => ∃ acc, H4 D = some (.lst acc) ∧ acc.length < sizeLine ∧ Nx (upd H4 D (.lst (acc ++ [y]))) else Nx H3) := by
      intro d o u od J hF hd hu nz w D nD
      have L : Rel X.K (E.lck d o (.frz od o)) F1 (upd H1 d (.frz od o)) st r1 := A1.rel.lck hF (.inr ⟨hd, od, rfl⟩) ⟨u, hu⟩
      have held : ∀ F2 H2 st2 r2, Rel X.K (E.lck d o (.frz od o)) F2 H2 st2 r2 → H2 d = some (.frz od o) := fun _ _ _ _ R2 => R2.keep d _ (show upd E.H0 d (.frz od o) d = _ from upd_same) fun z => (lck_bs.mp z).2 rfl
      refine lc_core (Tt := fun σ H Q => ∃ E, tDT X.K E (ofT PX0 tt) σ H Q) (Te := fun σ H Q => ∃ E, tD X.K E (dFz (ofT PX0 fe)) σ H Q) (Q := fun v H => Unl X (Q v) H) (fun _ _ _ z => ⟨_, z⟩) (fun _ _ _ z => ⟨_, z⟩) (ct _) L held w f (fun s r' v F' H' ps A ok' n' => ?_) D nD
      have hk := held _ _ _ _ A.rel
      have B := Aft.back A1.rel hF hd hu A
      have vo := vlOk_back (u := u) (A.stp.gf d o hF) ok'
      have nn := new_back n'
      have fin := k _ _ _ _ _ ps (A1.trans B) vo (A1.newBack nn)
      rcases nz with ⟨rfl, nz⟩ | rfl
      · exact .inr ⟨d, od, u, hk, nz, fin⟩
      · rw [upd_self' hk] at fin
        exact .inl fin
    cases (show Rp X.K F1 v (.dict ds) from ok) with
    | dik h1 h2 =>
      rcases A1.rel.sub _ _ h1 with z | ⟨z, od, z2⟩
      · exact .inr ⟨_, _, z, trivial, fun od nz => ⟨_, od, rfl, .inl ⟨_, upd_same, go h1 trivial z (.inl ⟨rfl, nz⟩) (dwalk_keysK h2)⟩⟩⟩
      · have m := go h1 trivial z2 (.inr rfl) (dwalk_keysK h2)
        rw [upd_self' z2] at m
        exact .inl ⟨_, od, rfl, .inl ⟨_, z2, m⟩⟩
    | dit h1 h2 =>
      rcases A1.rel.sub _ _ h1 with z | ⟨z, od, z2⟩
      · exact .inr ⟨_, _, z, trivial, fun od nz => ⟨_, od, rfl, .inr ⟨_, upd_same, go h1 trivial z (.inl ⟨rfl, nz⟩) (dwalk_keysT h2)⟩⟩⟩
      · have m := go h1 trivial z2 (.inr rfl) (dwalk_keysT h2)
        rw [upd_self' z2] at m
        exact .inl ⟨_, od, rfl, .inr ⟨_, z2, m⟩⟩
    | fn _ => cases nf
  · exact q1.elim
theorem pe_any {α : Type} {e : Expr} {t : α → TE} (h : ∀ a, PE X e (t a)) : PE X e (fun σ H Q => ∃ a, t a σ H Q) := ⟨fun pins s σ H Q I ⟨a, q⟩ => (h a).run pins s σ H Q I q⟩
theorem pts_any {α : Type} {ifs : List Expr} {t : α → TT} (h : ∀ a, PTs X ifs (t a)) : PTs X ifs (fun σ H Q => ∃ a, t a σ H Q) := ⟨fun pins s σ H Q I ⟨a, q⟩ => (h a).run pins s σ H Q I q⟩
theorem qe_lcD {elt iter : Expr} {ifs : List Expr} {scope : Scope} {own : List (Str × Nat)} {g : TG} {t : FTg} {tt : FTT} {fe : FT} (hc : X.calm = true) (hN : X.N.Nodup) (hi : FE PX E X iter fa) (ok : BlkOk X.N X.env.scope scope own)
    (ct : ∀ E, CT X.K E (own.map (·.2)) g (ofG PX0 t)) (hg : ∀ (s : Shared) (H : Hp) (C : Addr) (cl : List (Str × Addr)) (fp : List Addr), PG (X.blk s H scope (compEnvC scope cl C X.env) fp) tg g)
    (ht : ∀ (E : Ent) (s : Shared) (H : Hp) (C : Addr) (cl : List (Str × Addr)) (fp : List Addr), PTs (X.blk s H scope (compEnvC scope cl C X.env) fp) ifs (tDT X.K E (ofT PX0 tt)))
    (he : ∀ (E : Ent) (s : Shared) (H : Hp) (C : Addr) (cl : List (Str × Addr)) (fp : List Addr), FE PX0 E (X.blk s H scope (compEnvC scope cl C X.env) fp) elt fe) (hs : ∀ x, foldedSetIterable iter X.env x = pure x := by intro _; rfl) :
    FE PX E X (.ListComp elt [⟨tg, iter, ifs, 0⟩] scope pos) (qLcD fa t tt fe (own.map (·.2))) :=
  wkE (pe_unl (pe_lc (te := fun σ H Q => ∃ E, tD X.K E (dFz (ofT PX0 fe)) σ H Q) hc hN (pi_keys (pe_lkin (de_fz hi))) ok hg (fun s H C cl fp => pts_any fun E => ht E s H C cl fp) (fun s H C cl fp => pe_any fun E => de_fz (he E s H C cl fp)) hs)) fun st H Q h => lcD_main ct h
theorem qs_setLcD {i : Nat} {y : Str} {py : Pos} {elt iter : Expr} {ifs : List Expr} {scope : Scope} {own : List (Str × Nat)} {spos : Pos} {g : TG} {t : FTg} {tt : FTT} {fe : FT} (hc : X.calm = true) (hN : X.N.Nodup) (hy : X.N[i]? = some y) (hyl : X.env.scope.names.lookup y = some .local)
    (hsw : swapsWith (.ListComp elt [⟨tg, iter, ifs, 0⟩] scope pos) (some (.Name y py)) spos.line X.env = pure true) (hi : FE PX E X iter fa) (ok : BlkOk X.N X.env.scope scope own)
    (ct : ∀ E, CT X.K E (own.map (·.2)) g (ofG PX0 t)) (hg : ∀ (s : Shared) (H : Hp) (C : Addr) (cl : List (Str × Addr)) (fp : List Addr), PG (X.blk s H scope (compEnvC scope cl C X.env) fp) tg g)
    (ht : ∀ (E : Ent) (s : Shared) (H : Hp) (C : Addr) (cl : List (Str × Addr)) (fp : List Addr), PTs (X.blk s H scope (compEnvC scope cl C X.env) fp) ifs (tDT X.K E (ofT PX0 tt)))
    (he : ∀ (E : Ent) (s : Shared) (H : Hp) (C : Addr) (cl : List (Str × Addr)) (fp : List Addr), FE PX0 E (X.blk s H scope (compEnvC scope cl C X.env) fp) elt fe) (hs : ∀ x, foldedSetIterable iter X.env x = pure x := by intro _; rfl) :
    FSt PX E X (.Assign [.Name y py] (.ListComp elt [⟨tg, iter, ifs, 0⟩] scope pos) spos) (qsSet i (qLcD fa t tt fe (own.map (·.2)))) := by
  have h := ps_setLc (i := i) (spos := spos) (py := py) (te := fun σ H Q => ∃ E, tD X.K E (dFz (ofT PX0 fe)) σ H Q) hc hN hy hyl hsw (pi_keys (pe_lkin (de_fz hi))) ok hg (fun s H C cl fp => pts_any fun E => ht E s H C cl fp) (fun s H C cl fp => pe_any fun E => de_fz (he E s H C cl fp)) hs
  exact qs_set (wkS (ps_unl h) fun D st H q => lcD_main ct q)
end
end DL
set_option Elab.async false
set_option linter.all false
set_option autoImplicit false
set_option maxRecDepth 100000
set_option maxHeartbeats 4000000
/-! FLw: sorted(a dict); a dict of one pair. -/
namespace DL
open PySem PySem.Spec PyProof.Rows L2 Out
section
variable {prog : Program} {w : World} {A : Around} {EE : Value → Shared → Prop} {s : Shared} {T : String} {r d : Addr} {n : Nat} {P : Nat → Value → Prop} {OK : Heap → Prop}
/-- what a source of that kind gives, and how great the heap is then -/
theorem coll_src {R : List Value → Shared → Prop} (K : PySem.W.KdlSrc prog w T r d n P OK) (hh : A.handled = none) (hok : OK s.heap) (hn : n ≤ sizeLine) (h : ∀ (s1 : Shared) (acc : Array Value), Grew s s1 → ItemsOf P acc n → R acc.toList s1) :
    wpAny (model prog w) A (collect (.ref r)) R EE s := by
  have hlt := K.there _ hok
  have new : (s.heap.push { cls := .type "list", data := .seq ([] : List Value).toArray }).get? s.heap.objs.size = some { cls := .type "list", data := .seq #[] } := Heap.get?_push_size _ rfl
  unfold collect
  refine wpAny_bind (wpAny_runValue (codeAny_builtin F.entry_proto_collect ?_))
  rw [Around.under_plainId F.plain_proto_collect _]
  show wpAny _ A.in1 (newList [] >>= fun c => again (.builtin "list.__iadd__" ⟨[c, .ref r], []⟩)) _ _ s
  refine wpAny_bind (wpAny_newObj_type (wpAny_pure ⟨plainId_quiet F.plain_list_iadd _, codeAny_builtin F.entry_list_iadd ?_⟩))
  rw [Around.under_plainId F.plain_list_iadd _]
  have fin : ∀ (q : Result) (s2 : Shared), (q = .ok (.ret (.ref s.heap.objs.size)) ∧ ∃ (acc : Array Value) (c : Nat), Grew s s2 ∧ s2.heap.get? s.heap.objs.size = some { cls := .type "list", dict := none, data := .seq acc c, slots := #[] } ∧ ItemsOf P acc n) →
      ∀ f, q = .ok f → wpAny (model prog w) A (do
        let o ← load s.heap.objs.size
        match o.data with
        | .seq xs _ => pure xs.toList
        | _ => unsupported "internal:collect") R EE s2 := by
    rintro q s2 ⟨_, acc, c, g, e, it⟩ f _
    exact wpAny_bind (wpAny_load e (wpAny_pure (h s2 acc g it)))
  have step := PySem.W.kdl_extend (A := A) (s := { s with heap := s.heap.push { cls := .type "list", data := .seq ([] : List Value).toArray } })
    (R := fun q s2 => q = .ok (.ret (.ref s.heap.objs.size)) ∧ ∃ (acc : Array Value) (c : Nat), Grew s s2 ∧ s2.heap.get? s.heap.objs.size = some { cls := .type "list", dict := none, data := .seq acc c, slots := #[] } ∧ ItemsOf P acc n)
    K hh (K.keep _ _ hok fun b _ o e => Heap.get?_push_of_some _ e) s.heap.objs.size (Nat.ne_of_gt hlt.1) (Nat.ne_of_gt hlt.2) (.ref s.heap.objs.size) 0 new
    (fun h' tk acc c hk e it => ⟨rfl, acc, c, ⟨fun b o z => hk b o (Nat.ne_of_lt (Heap.lt_size z)) (Heap.get?_push_of_some _ z), rfl, rfl, Nat.le_of_lt (Heap.lt_size e)⟩, e, it⟩) hn
  refine wpAny_mono step (fun v s2 x => ?_) fun e s2 x => ?_
  · cases v with
    | done f =>
      obtain ⟨e1, x⟩ := x
      cases e1
      exact fin _ s2 ⟨rfl, x⟩ _ rfl
    | again c =>
      refine ⟨x.1, codeAny_mono x.2 fun q s3 y => ?_⟩
      obtain ⟨e1, y⟩ := y
      subst e1
      exact fin _ s3 ⟨rfl, y⟩ _ rfl
  · cases x.1
end
/-- a key as a value of the heap -/
def KP (H : Hp) (v : V) (x : PyData) : Prop := (∃ k, v = kV k ∧ x = keyD k) ∨ ∃ ks b, v = .ref b ∧ H b = some (.tup (ks.map kV)) ∧ x = keysD ks
/-- at a stands a dict of these keys -/
def KDict (H : Hp) (a : Addr) (xs : List PyData) : Prop := (∃ kvs, Rd H a (.dK kvs) ∧ xs = kvs.map fun q => keyD q.1) ∨ ∃ kvs, Rd H a (.dT kvs) ∧ xs = kvs.map fun q => keysD q.1
section
variable {X : Cx} {A : Around} {pins : List (Addr × Obj)} {σ : L2.St} {s : Shared} {H : Hp} {a : Addr} {xs : List PyData} {EE : Value → Shared → Prop}
theorem each_at {R : Value → PyData → Prop} : ∀ {us : List Value} {ds : List PyData}, us.length = ds.length → (∀ (j : Nat) u d, us[j]? = some u → ds[j]? = some d → R u d) → PySem.W.EachIs R us ds
  | [], [], _, _ => .nil
  | [], d :: ds, h, _ => by cases h
  | u :: us, [], h, _ => by cases h
  | u :: us, d :: ds, h, k => .cons (k 0 u d rfl rfl) (each_at (Nat.succ.inj h) fun j u d e1 e2 => k (j + 1) u d (by simpa using e1) (by simpa using e2))
theorem keys_coll {Q : List Value → Shared → Prop} (hh : A.handled = none) (I : Inv X pins σ H s) (h : KDict H a xs) (hq : ∀ (vs : List Value) (s1 : Shared), PySem.W.EachIs (fun u d => ∃ v, RelV v u ∧ KP H v d) vs xs → Grew s s1 → xs.length ≤ sizeLine → Q vs s1) :
    wpAny (model X.prog X.w) A (collect (.ref a)) Q EE s := by
  rcases h with ⟨kvs, hd, rfl⟩ | ⟨kvs, hd, rfl⟩
  · obtain ⟨z, lo, vs, rk, hdd⟩ := dk_rd I.hok hd
    obtain ⟨ep, hat⟩ := hdd.dictAt
    have hl : kvs.length = vs.length := Paired.length rk
    refine coll_src (PySem.W.kdl_dict (knd := mixKind X.prog X.w) (kvs := vs) (ep := ep) lo) hh hat (by rw [← hl]; exact z) fun s1 acc g it => hq _ s1 ?_ g (by rw [List.length_map]; exact z)
    refine each_at (by rw [Array.length_toList, it.1, List.length_map, hl]) fun j u d e1 e2 => ?_
    obtain ⟨k, y, hky, hi⟩ := it.2 j u (by rw [← Array.getElem?_toList]; exact e1)
    have q : (kvs.map (·.1))[j]? = some k := by
      rw [KV.keys rk, List.getElem?_map, hky] <;> rfl
    have q2 : (kvs.map fun q => keyD q.1)[j]? = some (keyD k) := by
      have e3 : (kvs.map fun q => keyD q.1) = (kvs.map (·.1)).map keyD := by rw [List.map_map] <;> rfl
      rw [e3, List.getElem?_map, q] <;> rfl
    rw [q2] at e2
    cases e2
    exact ⟨kV k, keyIs_rel hi, .inl ⟨k, rfl, rfl⟩⟩
  · obtain ⟨z, hs, ks, pr, o, es, ep, ho, hx, hdt, he, hn⟩ := (show ObjOk X.prog X.w H s.heap a (.dT kvs) from hd.ok I.hok)
    have l1 : es.size = ks.length := size_of_entries he
    have l2 : kvs.length = ks.length := Paired.length pr
    refine coll_src (kdl_raw hs hx hdt) hh ho (by omega) fun s1 acc g it => hq _ s1 ?_ g (by rw [List.length_map]; exact z)
    refine each_at (by rw [Array.length_toList, it.1, List.length_map]; omega) fun j u d e1 e2 => ?_
    obtain ⟨en, hen, hv⟩ := it.2 j u (by rw [← Array.getElem?_toList]; exact e1)
    have qe := entry_at he j
    rw [hen] at qe
    rw [List.getElem?_map] at e2
    cases hb : kvs[j]? with
    | none => rw [hb] at e2; cases e2
    | some p =>
      rw [hb] at e2
      cases e2
      obtain ⟨b, hb2, e3, e4, _⟩ := L2.paired_get pr hb
      rw [hb2] at qe
      have e5 : en = entryOfKey (tupleKind (mixKind X.prog X.w)) b := Option.some.inj qe
      refine ⟨.ref b.2.1, ?_, .inr ⟨p.1, b.2.1, rfl, e4, rfl⟩⟩
      rw [hv, e5]
      rfl
end
section
variable {PX : Exn → Prop} {X : Cx} {E : Ent} {K : PySem.W.Frag} {F H : Hp} {e : Expr} {p pos : Pos} {ha : FTA} {k : Nat} {st : St} {r : DEnv}
theorem kp_dp {v : V} {x : PyData} (h : KP H v x) : Dp K H v x := by
  have key : ∀ k : Key, Dp K H (kV k) (keyD k) := fun k => by
    cases k with
    | inl i => exact .int i
    | inr z => exact .str z
  rcases h with ⟨k, rfl, rfl⟩ | ⟨ks, b, rfl, hb, rfl⟩
  · exact key k
  · have all : ∀ ks : List Key, DpAll K H (ks.map kV) (ks.map keyD) := fun ks => by
      induction ks with
      | nil => exact .nil
      | cons k ks ih => exact .cons (key k) ih
    exact .tup (.inl (.inl hb)) (all ks)
/-- keys may join what stays -/
theorem adopt_all (R : Rel K E F H st r) : ∀ {ys : List V} {xs : List PyData}, Paired (KP H) ys xs → ∃ F', Aft K E F H st r F' H r ∧ Rps K F' ys xs
  | _, _, .nil => ⟨F, .refl R, .nil⟩
  | _, _, .cons h t => by
    obtain ⟨F1, A, q⟩ := adopt_all R t
    rcases h with ⟨k, rfl, rfl⟩ | ⟨ks, b, rfl, hb, rfl⟩
    · refine ⟨F1, A, .cons ?_ q⟩
      cases k with
      | inl i => exact .int i
      | inr z => exact .str z
    · obtain ⟨F2, B, e⟩ := A.rel.adopt hb
      exact ⟨F2, A.trans B, .cons (.tup e (rps_ofKeys ks)) (rpsM B.stp.gf q)⟩
def rSortK : List V → Hp → VK → Prop := fun vs H Q => ∃ (a : Addr) (xs : List PyData), vs = [.ref a] ∧ KDict H a xs ∧ srtB xs = true ∧ ∀ (ys : List V) (q : Addr), Paired (KP H) ys (srtD xs) → H q = none → Q (.ref q) (upd H q (.lst ys))
theorem cr_sortK (hc : X.calm = true) (hu : X.A.units + 66 < cLine) : CallR X (.builtin "sorted") rSortK := by
  intro pins s σ H vs us Q I r h
  obtain ⟨a, xs, rfl, hd, hb, q⟩ := h
  obtain ⟨h1, h2, h3, h4⟩ := srtB_ok hb
  rw [Vals.ref1 r]
  refine sorted_coll (R := fun u d => ∃ v, RelV v u ∧ KP H v d) (G := fun us' ds' => ds' = xs ∧ PySem.W.EachIs (fun u d => ∃ v, RelV v u ∧ KP H v d) us' ds') ?_ ?_ ?_ ?_
  · rintro u d ⟨v, rr, pp⟩
    exact Dp.reads I d v u (kp_dp (K := X.K) pp) rr
  · rintro vs' ds' ⟨rfl, e2⟩
    exact ⟨e2, h1, h2, h3, fun d hm => by have := h4 d hm; omega⟩
  · intro Q' E' k
    exact keys_coll (A := X.A.in1) (I.ok.hd hc) I hd fun us s1 he g _ => k us xs s1 ⟨rfl, he⟩ g
  · rintro vs' ds' out c q0 s2 ⟨rfl, e2⟩ g hq hget ho
    obtain ⟨ys, y1, y2⟩ := pair_of_each (S := fun _ => True) (ho.mono fun _ _ z => ⟨trivial, z⟩)
    have ly : ys.length ≤ sizeLine := by
      rw [Paired.length y2]
      show (ds'.mergeSort _).length ≤ _
      rw [List.length_mergeSort]
      exact h3
    obtain ⟨J, hn⟩ := Inv.grew I g hq hget y1 ly
    exact ⟨.ref q0, _, J, rfl, q ys q0 (by rw [srtD_ms]; exact y2) hn⟩
def biSortedK : Bi
  | [.dict ds] => onee (nfnB (.dict ds) && srtB (ds.map (·.1))) (some (.n (.list (srtD (ds.map (·.1))))))
  | _ => none
theorem biSortedK_eq (ds : List (PyData × PyData)) : biSortedK [.dict ds] = onee (nfnB (.dict ds) && srtB (ds.map (·.1))) (some (.n (.list (srtD (ds.map (·.1)))))) := rfl2 rfl
theorem rdD_keys {v : V} {ds : List (PyData × PyData)} (h : RdD K F H v ds) (nf : nfnB (.dict ds) = true) : ∃ a, v = .ref a ∧ KDict H a (ds.map (·.1)) := by
  rcases h with ⟨a, kvs, ev, hk, rk⟩ | ⟨a, kvs, ev, hk, rk⟩ | ⟨n, e⟩
  · refine ⟨a, ev, .inl ⟨kvs, hk, ?_⟩⟩
    have keys : ∀ {xs : List (PyData × V)} {ds : List (PyData × PyData)}, Rpk K F xs ds → ds.map (·.1) = xs.map (·.1) := fun h => by
      induction ‹List (PyData × PyData)› generalizing ‹List (PyData × V)› with
      | nil => cases h; rfl
      | cons d ds ih => cases h with
        | cons h t => rw [List.map_cons, List.map_cons, ih t]
    rw [keys rk]
    unfold dicK
    rw [List.map_map]
    rfl
  · refine ⟨a, ev, .inr ⟨kvs, hk, ?_⟩⟩
    have keys : ∀ {xs : List (PyData × V)} {ds : List (PyData × PyData)}, Rpk K F xs ds → ds.map (·.1) = xs.map (·.1) := fun h => by
      induction ‹List (PyData × PyData)› generalizing ‹List (PyData × V)› with
      | nil => cases h; rfl
      | cons d ds ih => cases h with
        | cons h t => rw [List.map_cons, List.map_cons, ih t]
    rw [keys rk]
    unfold dicT
    rw [List.map_map]
    rfl
  · subst e
    cases nf
theorem qe_sortedK (hr : Room k X.A) (hc : X.calm = true) (hg : Gl X "sorted") (hm : X.mg "sorted" = none) (h : FA PX E X [e] ha) (he : starEach [e] X.env = (false, eval e X.env) :: starEach [] X.env := by rfl) (hpl : (backTo pos (starEach [] X.env)).any (·.1) = false := by rfl) :
    FE PX E X (.Call (.Name "sorted" p) [e] [] pos) (qB biSortedK ha) :=
  wkE (pe_callB (cr_sortK hc (Room.u66 hr)) hg hm (by decide +kernel) h (by decide) (by decide) he hpl) fun st H Q ⟨F, r, P, R, p, kk⟩ => by
  have p : (bind2 (ha r) (biK biSortedK)).wp2 PX P := p
  refine ⟨F, r, _, R, wp2_bind2 p, fun ss r1 vs F1 H1 q1 A1 ok old => ?_⟩
  unfold biK at q1
  obtain ⟨xs, e1, q1⟩ := wp2_opt q1
  unfold biK2 at q1
  obtain ⟨w, e2, q1⟩ := wp2_opt q1
  have q1 : P w r1 := q1
  unfold biSortedK at e2
  split at e2
  · rename_i ds
    obtain ⟨hh, e2⟩ := onee_some e2
    cases e2
    rw [Bool.and_eq_true] at hh
    have rv := reads A1.rel ok (rdAll_ok e1)
    cases rv with
    | cons rx t =>
      cases t
      obtain ⟨a, ea, kd⟩ := rdD_keys (rdv_dict A1.rel.sub rx) hh.1
      subst ea
      refine ⟨a, _, rfl, kd, hh.2, fun ys q py hq => ?_⟩
      obtain ⟨F2, A2, rys⟩ := adopt_all A1.rel py
      obtain ⟨A3, vo⟩ := A2.rel.newL hq rys
      exact kk _ _ _ _ _ q1 ((A1.trans A2).trans A3) vo fun z ez => by cases ez; exact A1.newBack (s := .n (.list [])) (fun w ew => by cases ew; exact hq) _ rfl
  · cases e2
end
end DL
set_option Elab.async false
set_option linter.all false
set_option autoImplicit false
set_option maxRecDepth 100000
set_option maxHeartbeats 4000000
/-! FLx: dicts written with one pair. -/
namespace DL
open PySem PySem.Spec PyProof.Rows L2 Out
section
variable {X : Cx} {pos : Pos} {ek ev : Expr} {tk tv : TE}
/-- {k: v}, k a tuple -/
def tDis1T (tk tv : TE) : TE := fun σ H Q => ∀ p, H p = none → tk σ (upd H p (.dT [])) fun x H1 => tv σ H1 fun y H2 => H2 p = some (.dT []) ∧ ∃ ks b, x = .ref b ∧ H2 b = some (.tup (ks.map kV)) ∧ Q (.ref p) (upd H2 p (.dT [(ks, y)]))
theorem pe_dis1T (hu : X.A.units + 66 < cLine) (hk : PE X ek tk) (hv : PE X ev tv) : PE X (.Dict [some ek] [ev] pos) (tDis1T tk tv) := by
  refine ⟨fun pins s σ H Q I q => ?_⟩
  have hn := I.hok.fresh (Nat.le_refl s.heap.objs.size)
  have I1 := I.laid (a := s.heap.objs.size) (o := .dT []) (h' := s.heap.push { cls := .type "dict", data := .dict #[] }) (t' := s.toks) (fun _ _ q => Heap.get?_push_of_some _ q) (Nat.le_refl _) (dt_empty s.heap I.big)
  rw [arm_eval_Dict, zip_pairTrees [some ek] [ev] X.env pos rfl rfl, dictDisplay_pairs (pairTrees [some ek] [ev] X.env pos) (fun z => by cases z) (by rw [pairTrees_length _ _ _ _ rfl rfl]; show 1 < 17; decide)]
  refine wpAny_bind (wpAny_standAt (wpAny_bind (wpAny_subDictH (knd := tupleKind (mixKind X.prog X.w)) (show X.A.units < cLine by omega) (by rw [pairTrees_length _ _ _ _ rfl rfl]; show 1 ≤ _; decide)
    (thn ((pps_cons hk hv pps_nil).run pins _ σ _ (fun ps H2 => match ps with
      | [(x, y)] => H2 s.heap.objs.size = some (.dT []) ∧ ∃ ks b, x = .ref b ∧ H2 b = some (.tup (ks.map kV)) ∧ Q (.ref s.heap.objs.size) (upd H2 s.heap.objs.size (.dT [(ks, y)]))
      | _ => False) I1 (q _ hn)) fun ws s2 ⟨ps, H2, I2, rel, qq⟩ => ?_))))
  · cases rel with
    | nil => exact qq.elim
    | @cons kv wv _ _ h t =>
      cases t with
      | cons => exact qq.elim
      | nil =>
      obtain ⟨e, ks, b, ex, hb, q2⟩ := qq
      obtain ⟨h1, h2⟩ := h
      rw [ex] at h1
      obtain ⟨w1, w2⟩ := wv
      have h1 : w1 = .ref b := h1
      subst h1
      obtain ⟨z, hd, xs, r0, o, es, ep, d1, d2, d3, d4, d5⟩ := (show ObjOk X.prog X.w H2 s2.heap s.heap.objs.size (.dT []) from I2.hok _ _ e)
      cases r0
      have kb := key_of I2.hok hb
      refine ⟨[(ks, b, w2)], ⟨rfl, rfl, kb, trivial⟩, ⟨o, es, ep, d1, d2, d3, d4, fun x hx => (nomatch hx), List.nodup_nil⟩, fun h' tk' dd hs => wpAny_pure ⟨.ref s.heap.objs.size, _, ?_, rfl, q2⟩⟩
      obtain ⟨o2, es2, ep2, g1, g2, g3, g4, g5, g6⟩ := dd
      have nb : b ≠ s.heap.objs.size := fun z => by rw [z, e] at hb; cases hb
      exact d_write I2 (by rw [e]; exact True.intro) hs ⟨_, g1⟩ ⟨by show 1 ≤ sizeLine; decide, hd, [(ks, b, w2)], .cons ⟨rfl, by rw [upd_ne nb]; exact hb, h2⟩ .nil, o2, es2, ep2, g1, g2, g3, g4, g6⟩
end
def tpB : PyData → Bool
  | .tuple xs => xs.all kB
  | _ => false
def dis3 (kb : PyData → Bool) (y : PyData) (r : DEnv) (x : PyData) : Out (Vl × DEnv) := need (kb x) (.ok (.n (.dict [(x, y)]), r))
def dis2 (kb : PyData → Bool) (s t : Vl) (r : DEnv) : Out (Vl × DEnv) := match t with
  | .d y => opt (rd r s) (dis3 kb y r)
  | _ => .bad
def dis1 (kb : PyData → Bool) (fv : FT) (s : Vl) (r : DEnv) : Out (Vl × DEnv) := bind2 (qFz fv r) (dis2 kb s)
def qDis (kb : PyData → Bool) (fk fv : FT) (r : DEnv) : Out (Vl × DEnv) := bind2 (fk r) (dis1 kb fv)
theorem dis3_eq (kb : PyData → Bool) (y : PyData) (r : DEnv) (x : PyData) : dis3 kb y r x = need (kb x) (.ok (.n (.dict [(x, y)]), r)) := rfl2 rfl
theorem dis2_eq (kb : PyData → Bool) (s : Vl) (y : PyData) (r : DEnv) : dis2 kb s (.d y) r = opt (rd r s) (dis3 kb y r) := rfl2 rfl
theorem dis1_eq (kb : PyData → Bool) (fv : FT) (s : Vl) (r : DEnv) : dis1 kb fv s r = bind2 (qFz fv r) (dis2 kb s) := rfl2 rfl
theorem qDis_eq (kb : PyData → Bool) (fk fv : FT) (r : DEnv) : qDis kb fk fv r = bind2 (fk r) (dis1 kb fv) := rfl2 rfl
theorem kB_int (i : Int) : kB (.int i) = true := rfl2 rfl
theorem kB_str (i : Str) : kB (.str i) = true := rfl2 rfl
theorem tpB_tup (xs : List PyData) : tpB (.tuple xs) = xs.all kB := rfl2 rfl
section
variable {PX : Exn → Prop} {X : Cx} {E : Ent} {K : PySem.W.Frag} {ek ev : Expr} {pos : Pos} {fk fv : FT} {st : St} {H : Hp} {Q : VK}
/-- the pair of a display, made while the new dict stands empty at p -/
theorem dis_main {kb : PyData → Bool} {u0 : HO} (hk : ∀ x, kb x = true → keyB x = true) (h : tD K E (ofT PX (qDis kb fk fv)) st H Q) (p : Addr) (n : H p = none) (hu : ∀ xs, u0 ≠ .tup xs) :
    tD K E (ofT PX fk) st (upd H p u0) fun v1 H1 => tD K E (dFz (ofT PX fv)) st H1 fun v2 H2 => H2 p = some u0 ∧ ∃ F2 x y, RdK F2 H2 v1 x ∧ kb x = true ∧ Rp K F2 v2 y ∧ Sub F2 H2 ∧ F2 p = none ∧
      ∀ o, ObAt K F2 (upd H2 p o) p (.dict [(x, y)]) → Q (.ref p) (upd H2 p o) := by
  obtain ⟨F, r, P, R, q, kk⟩ := h
  have q : (bind2 (fk r) (dis1 kb fv)).wp2 PX P := q
  have B := R.newH (o := u0) n
  have m0 := R.notMut n
  refine ⟨F, r, _, B.rel, wp2_bind2 q, fun s r1 v1 F1 H1 q1 A1 ok1 n1 => ?_⟩
  have q1 : (bind2 (qFz fv r1) (dis2 kb s)).wp2 PX P := q1
  have m1 : ¬ MutA st r1 p := fun z => m0 (A1.mu p z)
  have k1 : H1 p = some u0 := A1.stp.keep p _ upd_same m0
  have f1 : F1 p = none := (A1.stp.nofr p _ upd_same (R.sub.free n) m0).fin A1.rel.sub k1 hu
  refine ⟨F1, r1, _, A1.rel, qFz_d (PX := PX) (wp2_bind2 q1), fun t r2 v2 F2 H2 q2 A2 ok2 n2 => ?_⟩
  have k2 : H2 p = some u0 := A2.stp.keep p _ k1 m1
  have f2 : F2 p = none := (A2.stp.nofr p _ k1 f1 m1).fin A2.rel.sub k2 hu
  have m2 : ¬ MutA st r2 p := fun z => m1 (A2.mu p z)
  unfold dis2 at q2
  split at q2
  · rename_i y
    obtain ⟨x, e1, q2⟩ := wp2_opt q2
    unfold dis3 at q2
    obtain ⟨hb, q2⟩ := wp2_need q2
    have A : Aft K E F H st r F2 H2 r2 := B.trans (A1.trans A2)
    refine ⟨k2, F2, x, y, rdv_key (A2.rel.read (ok1.aft A2) e1) (hk x hb), hb, ok2, A2.rel.sub, f2, fun o ob => ?_⟩
    have W := A.write (o := o) (R.fresh0 n) n f2 m2 ⟨_, k2⟩
    exact kk (.n (.dict [(x, y)])) r2 _ _ _ q2 W ⟨p, rfl, ob, m2⟩ fun w e => by cases e; exact n
  · exact q2.elim
theorem qe_disK (hk : FE PX E X ek fk) (hv : FE PX E X ev fv) : FE PX E X (.Dict [some ek] [ev] pos) (qDis kB fk fv) :=
  wkE (pe_disp (pps_cons hk (de_fz hv) pps_nil) rfl rfl (fun z => by cases z) (by show 1 ≤ 15; decide)) fun st H Q h => fun p n => by
  have q := dis_main (u0 := .dK []) (fun x hx => by cases x <;> first | rfl | cases hx) h p n (fun _ z => nomatch z)
  obtain ⟨F, r, P, R, q, kk⟩ := q
  refine ⟨F, r, P, R, q, fun s r1 v1 F1 H1 q1 A1 ok1 n1 => ?_⟩
  obtain ⟨F1, r1, P1, R1, q1, kk1⟩ := kk _ _ _ _ _ q1 A1 ok1 n1
  refine ⟨F1, r1, P1, R1, q1, fun t r2 v2 F2 H2 q2 A2 ok2 n2 => ?_⟩
  obtain ⟨e, F3, x, y, rk, hb, ry, sb, nf, fin⟩ := kk1 _ _ _ _ _ q2 A2 ok2 n2
  refine ⟨e, ?_⟩
  rcases rk with ⟨k, ex, ew⟩ | ⟨ks, b, ex, ew, _⟩
  · subst ex ew
    refine ⟨[(k, v2)], rfl, by show 1 ≤ 15; decide, fin _ ?_⟩
    exact ⟨nf, .inl ⟨[(k, v2)], upd_same, .cons ry .nil⟩⟩
  · subst ex
    cases hb
theorem qe_disT (hu : X.A.units + 66 < cLine) (hk : FE PX E X ek fk) (hv : FE PX E X ev fv) : FE PX E X (.Dict [some ek] [ev] pos) (qDis tpB fk fv) :=
  wkE (pe_dis1T hu hk (de_fz hv)) fun st H Q h => fun p n => by
  have q := dis_main (u0 := .dT []) (fun x hx => by cases x <;> first | exact hx | cases hx) h p n (fun _ z => nomatch z)
  obtain ⟨F, r, P, R, q, kk⟩ := q
  refine ⟨F, r, P, R, q, fun s r1 v1 F1 H1 q1 A1 ok1 n1 => ?_⟩
  obtain ⟨F1, r1, P1, R1, q1, kk1⟩ := kk _ _ _ _ _ q1 A1 ok1 n1
  refine ⟨F1, r1, P1, R1, q1, fun t r2 v2 F2 H2 q2 A2 ok2 n2 => ?_⟩
  obtain ⟨e, F3, x, y, rk, hb, ry, sb, nf, fin⟩ := kk1 _ _ _ _ _ q2 A2 ok2 n2
  refine ⟨e, ?_⟩
  rcases rk with ⟨k, ex, ew⟩ | ⟨ks, b, ex, ew, hq⟩
  · subst ex
    cases k <;> cases hb
  · subst ex ew
    exact ⟨ks, b, rfl, sub_tup sb hq, fin _ ⟨nf, .inr ⟨[(ks, v2)], upd_same, .cons ry .nil⟩⟩⟩
end
end DL
set_option Elab.async false
set_option linter.all false
set_option autoImplicit false
set_option maxRecDepth 100000
set_option maxHeartbeats 4000000
/-! FLy: x == [], x != (), whatever x holds. -/
namespace DL
open PySem PySem.Spec PyProof.Rows L2 Out
section
variable {PX : Exn → Prop} {X : Cx} {E : Ent} {a b : Expr} {pos : Pos} {fa fb : FT}
def opNe0 (x y : PyData) : Option Vl := match x, y with
  | .list xs, .list [] => some (.d (.bool (!xs.isEmpty)))
  | .tuple xs, .tuple [] => some (.d (.bool (!xs.isEmpty)))
  | _, _ => none
def opEq0 (x y : PyData) : Option Vl := match x, y with
  | .list xs, .list [] => some (.d (.bool xs.isEmpty))
  | .tuple xs, .tuple [] => some (.d (.bool xs.isEmpty))
  | _, _ => none
theorem opNe0_l (xs : List PyData) : opNe0 (.list xs) (.list []) = some (.d (.bool (!xs.isEmpty))) := rfl2 rfl
theorem opNe0_t (xs : List PyData) : opNe0 (.tuple xs) (.tuple []) = some (.d (.bool (!xs.isEmpty))) := rfl2 rfl
theorem opEq0_l (xs : List PyData) : opEq0 (.list xs) (.list []) = some (.d (.bool xs.isEmpty)) := rfl2 rfl
theorem opEq0_t (xs : List PyData) : opEq0 (.tuple xs) (.tuple []) = some (.d (.bool xs.isEmpty)) := rfl2 rfl
theorem opNe0_ok : ∀ x y w, opNe0 x y = some w → ∃ z, w = .d z ∧ bNe0 x y z := fun x y w h => by
  unfold opNe0 at h
  split at h
  · cases h; exact ⟨_, rfl, .inl ⟨_, rfl, rfl, rfl⟩⟩
  · cases h; exact ⟨_, rfl, .inr ⟨_, rfl, rfl, rfl⟩⟩
  · cases h
theorem opEq0_ok : ∀ x y w, opEq0 x y = some w → ∃ z, w = .d z ∧ bEq0 x y z := fun x y w h => by
  unfold opEq0 at h
  split at h
  · cases h; exact ⟨_, rfl, .inl ⟨_, rfl, rfl, rfl⟩⟩
  · cases h; exact ⟨_, rfl, .inr ⟨_, rfl, rfl, rfl⟩⟩
  · cases h
end
end DL
set_option Elab.async false
set_option linter.all false
set_option autoImplicit false
set_option maxRecDepth 100000
set_option maxHeartbeats 4000000
/-! FLz: comprehensions over an own list that stays one's own. -/
namespace DL
open PySem PySem.Spec PyProof.Rows L2 Out
section
variable {PX : Exn → Prop} {X : Cx} {K : PySem.W.Frag} {E : Ent} {F H F' H' F1 H1 F2 H2 : Hp} {st : St} {r r' r1 r2 : DEnv} {a p : Addr} {o : HO} {v : V} {x : PyData} {xs : List PyData} {vs : List V} {s : Vl} {i : Nat}
/-- the entry told anew while the own list at a is walked over -/
def Ent.hld (E : Ent) (a : Addr) (o : HO) : Ent := ⟨E.F0, upd E.H0 a o, E.vs, E.bs.filter fun b => decide (b ≠ a)⟩
theorem hld_bs {b : Addr} : b ∈ (E.hld a o).bs ↔ b ∈ E.bs ∧ b ≠ a := by
  unfold Ent.hld
  simp
theorem set_ne {j : Nat} {y : Option Sl} {z : Sl} (h : (r.set i y)[j]? = some (some z)) (hy : y = none) : j ≠ i ∧ r[j]? = some (some z) := by
  subst hy
  rw [List.getElem?_set] at h
  split at h
  · split at h
    · cases h
    · cases h
  · rename_i hne
    exact ⟨fun e => hne e.symm, h⟩
theorem Rel.hld (R : Rel K E F H st r) (hr : r[i]? = some (some (.l x))) (hs : st[i]? = some (some (.ref a))) (e0 : E.H0 a = none) (fa : F a = none) (ha : H a = some o) : Rel K (E.hld a o) F H st (r.set i none) := by
  refine ⟨R.sub, R.grow, fun b u e m => ?_, fun b u e => ?_, fun b u e1 e2 => ?_, by rw [List.length_set]; exact R.len, fun j y e => ?_, fun j y e => ?_, fun j y e => ?_, fun j k s t b h1 h2 m1 m2 e1 e2 => ?_⟩
  · have e : upd E.H0 a o b = some u := e
    by_cases h : b = a
    · subst h
      rw [upd_same] at e
      cases e
      exact ha
    · rw [upd_ne h] at e
      exact R.keep b u e fun z => m (hld_bs.mpr ⟨z, h⟩)
  · have e : upd E.H0 a o b = some u := e
    by_cases h : b = a
    · subst h; exact ⟨_, ha⟩
    · rw [upd_ne h] at e
      exact R.ever b u e
  · have e1 : upd E.H0 a o b = some u := e1
    by_cases h : b = a
    · subst h; exact .inl fa
    · rw [upd_ne h] at e1
      exact R.nofr b u e1 e2
  · exact R.dat j y (set_ne e rfl).2
  · obtain ⟨n, e⟩ := set_ne e rfl
    obtain ⟨q, h1, h2, h3⟩ := R.own j y e
    have ne : q ≠ a := fun z => n (R.sep j i _ _ a e hr rfl rfl (by rw [h1, z]) hs)
    exact ⟨q, h1, by show upd E.H0 a o q = none; rw [upd_ne ne]; exact h2, h3⟩
  · obtain ⟨n, e⟩ := set_ne e rfl
    obtain ⟨q, h1, h2, h3, h4⟩ := R.bor j y e
    have ne : q ≠ a := fun z => n (R.sep j i _ _ a e hr rfl rfl (by rw [h1, z]) hs)
    exact ⟨q, h1, h2, hld_bs.mpr ⟨h3, ne⟩, h4⟩
  · exact R.sep j k s t b (set_ne h1 rfl).2 (set_ne h2 rfl).2 m1 m2 e1 e2
theorem set_at {j : Nat} {y z : Sl} (h : (r.set i (some y))[j]? = some (some z)) : (j = i ∧ z = y) ∨ (j ≠ i ∧ r[j]? = some (some z)) := by
  rw [List.getElem?_set] at h
  split at h
  · split at h
    · rename_i e _
      cases h
      exact .inl ⟨e.symm, rfl⟩
    · cases h
  · rename_i hne
    exact .inr ⟨fun e => hne e.symm, h⟩
theorem hld_held (R2 : Rel K (E.hld a o) F2 H2 st r2) : H2 a = some o := R2.keep a o (show upd E.H0 a o a = _ from upd_same) fun z => (hld_bs.mp z).2 rfl
/-- and back -/
theorem Aft.rls (R : Rel K E F H st r) (hr : r[i]? = some (some (.l (.list xs)))) (hs : st[i]? = some (some (.ref a))) (e0 : E.H0 a = none) (fa : F a = none) (ha : H a = some (.lst vs)) (hx : Rps K F vs xs)
    (A : Aft K (E.hld a (.lst vs)) F H st (r.set i none) F2 H2 r2) (hi : r2[i]? = some none) : Aft K E F H st r F2 H2 (r2.set i (some (.l (.list xs)))) := by
  have R2 := A.rel
  have ha2 := hld_held R2
  have fa2 : F2 a = none := (R2.nofr a _ (show upd E.H0 a (.lst vs) a = _ from upd_same) (by
    cases q : E.F0 a with
    | none => exact q
    | some u =>
      have := R.grow a u q
      rw [fa] at this
      cases this)).fin R2.sub ha2 fun _ z => nomatch z
  have mm : ∀ b, MutA st (r.set i none) b → MutA st r b := fun b ⟨j, s, h1, h2, h3⟩ => ⟨j, s, (set_ne h1 rfl).2, h2, h3⟩
  have rne : ∀ (j : Nat) (s : Sl) (b : Addr), r2[j]? = some (some s) → Sl.mu s = true → st[j]? = some (some (V.ref b)) → b ≠ a := by
    intro j s b h1 h2 h3 e
    subst e
    cases s with
    | d y => cases h2
    | l y =>
      obtain ⟨q, g1, g2, _⟩ := R2.own j y h1
      rw [h3] at g1
      cases g1
      have g2 : upd E.H0 b (.lst vs) b = none := g2
      rw [upd_same] at g2
      cases g2
    | b y =>
      obtain ⟨q, g1, g2, g3, _⟩ := R2.bor j y h1
      rw [h3] at g1
      cases g1
      exact (hld_bs.mp g3).2 rfl
  refine ⟨⟨R2.sub, R2.grow, fun b u e m => ?_, fun b u e => ?_, fun b u e1 e2 => ?_, by rw [List.length_set]; exact R2.len, fun j y e => ?_, fun j y e => ?_, fun j y e => ?_, fun j k s t b h1 h2 m1 m2 e1 e2 => ?_⟩, ⟨A.stp.gf, fun b u e m => A.stp.keep b u e fun z => m (mm b z), A.stp.ever, fun b u e n m => A.stp.nofr b u e n fun z => m (mm b z)⟩, fun b ⟨j, s, h1, h2, h3⟩ => ?_⟩
  · have ne : b ≠ a := fun z => by rw [z, e0] at e; cases e
    exact R2.keep b u (show upd E.H0 a (.lst vs) b = _ by rw [upd_ne ne]; exact e) fun z => m (hld_bs.mp z).1
  · have ne : b ≠ a := fun z => by rw [z, e0] at e; cases e
    exact R2.ever b u (show upd E.H0 a (.lst vs) b = _ by rw [upd_ne ne]; exact e)
  · have ne : b ≠ a := fun z => by rw [z, e0] at e1; cases e1
    exact R2.nofr b u (show upd E.H0 a (.lst vs) b = _ by rw [upd_ne ne]; exact e1) e2
  · rcases set_at e with ⟨_, z⟩ | ⟨_, e⟩
    · cases z
    · exact R2.dat j y e
  · rcases set_at e with ⟨z, z2⟩ | ⟨_, e⟩
    · cases z2
      subst z
      exact ⟨a, hs, e0, vs, fa2, ha2, rpsM A.stp.gf hx⟩
    · obtain ⟨q, h1, h2, h3⟩ := R2.own j y e
      have ne := rne j _ q e rfl h1
      have h2 : upd E.H0 a (.lst vs) q = none := h2
      rw [upd_ne ne] at h2
      exact ⟨q, h1, h2, h3⟩
  · rcases set_at e with ⟨_, z⟩ | ⟨_, e⟩
    · cases z
    · obtain ⟨q, h1, h2, h3, h4⟩ := R2.bor j y e
      exact ⟨q, h1, h2, (hld_bs.mp h3).1, h4⟩
  · rcases set_at h1 with ⟨z, _⟩ | ⟨_, g1⟩
    · rcases set_at h2 with ⟨w, _⟩ | ⟨_, g2⟩
      · rw [z, w]
      · subst z
        rw [hs] at e1
        cases e1
        exact (rne k _ _ g2 m2 e2 rfl).elim
    · rcases set_at h2 with ⟨w, _⟩ | ⟨_, g2⟩
      · subst w
        rw [hs] at e2
        cases e2
        exact (rne j _ _ g1 m1 e1 rfl).elim
      · exact R2.sep j k s t b g1 g2 m1 m2 e1 e2
  · rcases set_at h1 with ⟨z, _⟩ | ⟨_, h1⟩
    · subst z
      rw [hs] at h3
      cases h3
      exact ⟨j, _, hr, rfl, hs⟩
    · exact mm b (A.mu b ⟨j, s, h1, h2, h3⟩)
theorem dwalk_own (h : Rps K F vs xs) : DWalkL K (fun H => H a = some (.lst vs)) F (Itl K a) xs := by
  refine ⟨_, _, by rw [← rps_len h]; exact walk_list (K := K) (a := a) (xs := vs), fun F1 H _ _ m => Or.inl (Or.inl m), fun j F1 H v H' hi s g m y => ?_⟩
  obtain ⟨x, e, z⟩ := rps_at' h y.2
  exact ⟨x, e, .inl ⟨y.1, z⟩⟩
theorem dwalk_frz (h : SqL K F a vs) (q : Rps K F vs xs) : DWalkL K (fun _ => True) F (Itl K a) xs := by
  refine ⟨_, _, by rw [← rps_len q]; exact walk_list (K := K) (a := a) (xs := vs), fun F1 H s g _ => g.seq (s.seq h), fun j F1 H v H' hi s g m y => ?_⟩
  obtain ⟨x, e, z⟩ := rps_at' q y.2
  exact ⟨x, e, .inl ⟨y.1, z⟩⟩
def lcO3 (i : Nat) (xs : List PyData) (s : Vl) (r : DEnv) (o : Option (Option Sl)) : Out (Vl × DEnv) := match s, o with
  | .n y, some none => .ok (.n y, r.set i (some (.l (.list xs))))
  | _, _ => .bad
def lcO2 (i : Nat) (xs : List PyData) (s : Vl) (r : DEnv) : Out (Vl × DEnv) := lcO3 i xs s r r[i]?
def lcOK (i : Nat) (t : FTg) (tt : FTT) (fe : FT) (own : List Nat) (r : DEnv) (o : Option (Option Sl)) : Out (Vl × DEnv) := match o with
  | some (some (.l (.list xs))) => bind2 (lcK1 t tt fe own xs (r.set i none)) (lcO2 i xs)
  | some (some (.d (.list xs))) => lcK1 t tt fe own xs r
  | _ => .bad
def qLcO (i : Nat) (t : FTg) (tt : FTT) (fe : FT) (own : List Nat) (r : DEnv) : Out (Vl × DEnv) := lcOK i t tt fe own r r[i]?
theorem lcO3_n (i : Nat) (xs : List PyData) (y : PyData) (r : DEnv) : lcO3 i xs (.n y) r (some none) = .ok (.n y, r.set i (some (.l (.list xs)))) := rfl2 rfl
theorem lcO2_eq (i : Nat) (xs : List PyData) (s : Vl) (r : DEnv) : lcO2 i xs s r = lcO3 i xs s r r[i]? := rfl2 rfl
theorem lcOK_l (i : Nat) (t : FTg) (tt : FTT) (fe : FT) (own : List Nat) (r : DEnv) (xs : List PyData) : lcOK i t tt fe own r (some (some (.l (.list xs)))) = bind2 (lcK1 t tt fe own xs (r.set i none)) (lcO2 i xs) := rfl2 rfl
theorem lcOK_d (i : Nat) (t : FTg) (tt : FTT) (fe : FT) (own : List Nat) (r : DEnv) (xs : List PyData) : lcOK i t tt fe own r (some (some (.d (.list xs)))) = lcK1 t tt fe own xs r := rfl2 rfl
theorem qLcO_eq (i : Nat) (t : FTg) (tt : FTT) (fe : FT) (own : List Nat) (r : DEnv) : qLcO i t tt fe own r = lcOK i t tt fe own r r[i]? := rfl2 rfl
end
section
variable {PX : Exn → Prop} {X : Cx} {E : Ent} {tg : Expr} {pos : Pos} {st : St} {H : Hp} {Q : VK} {i : Nat}
theorem lcO_main {g : TG} {t : FTg} {tt : FTT} {fe : FT} {own : List Nat} (ct : ∀ E, CT X.K E own g (ofG PX0 t)) (h : tD X.K E (ofT PX (qLcO i t tt fe own)) st H Q) :
    tLc (iSq X.K (tVar i)) g (fun σ H Q => ∃ E, tDT X.K E (ofT PX0 tt) σ H Q) (fun σ H Q => ∃ E, tD X.K E (dFz (ofT PX0 fe)) σ H Q) own st H Q := by
  obtain ⟨F, r, P, R, p, k⟩ := h
  have p : (qLcO i t tt fe own r).wp2 PX P := p
  unfold qLcO lcOK at p
  split at p
  · rename_i xs hr
    obtain ⟨a, hs, e0, vs, fa, ha, hx⟩ := R.own i _ hr
    refine ⟨_, hs, .inl ⟨a, rfl, ⟨vs, .inl (.inl ha)⟩, fun D nD => ?_⟩⟩
    have L := R.hld (x := .list xs) hr hs e0 fa ha
    refine lc_core (Tt := fun σ H Q => ∃ E, tDT X.K E (ofT PX0 tt) σ H Q) (Te := fun σ H Q => ∃ E, tD X.K E (dFz (ofT PX0 fe)) σ H Q) (fun _ _ _ z => ⟨_, z⟩) (fun _ _ _ z => ⟨_, z⟩) (ct _) L (fun _ _ _ _ R2 => R2.keep a _ (show upd E.H0 a (.lst vs) a = _ from upd_same) fun z => (hld_bs.mp z).2 rfl) (dwalk_own hx) (lcL_d (wp2_bind2 p)) (fun s r' v F' H' ps A ok' n' => ?_) D nD
    unfold lcO2 lcO3 at ps
    split at ps
    · rename_i y e
      have B := Aft.rls R hr hs e0 fa ha hx A e
      refine k _ _ _ _ _ ps B ?_ n'
      obtain ⟨q, h1, h2, h3⟩ := ok'
      refine ⟨q, h1, h2, fun ⟨j, s, g1, g2, g3⟩ => ?_⟩
      rcases set_at g1 with ⟨z, _⟩ | ⟨_, g1⟩
      · subst z
        rw [hs] at g3
        cases g3
        have := n' _ h1
        rw [ha] at this
        cases this
      · exact h3 ⟨j, s, g1, g2, g3⟩
    · exact ps.elim
  · rename_i xs hr
    obtain ⟨w, hs, hw⟩ := R.dat i _ hr
    cases hw with
    | lst h1 h2 =>
      refine ⟨_, hs, .inl ⟨_, rfl, ⟨_, R.sub.seq h1⟩, fun D nD => ?_⟩⟩
      exact lc_core (Tt := fun σ H Q => ∃ E, tDT X.K E (ofT PX0 tt) σ H Q) (Te := fun σ H Q => ∃ E, tD X.K E (dFz (ofT PX0 fe)) σ H Q) (fun _ _ _ z => ⟨_, z⟩) (fun _ _ _ z => ⟨_, z⟩) (ct _) R (fun _ _ _ _ _ => trivial) (dwalk_frz h1 h2) (lcL_d p) k D nD
  · exact p.elim
theorem qe_lcO {elt iter : Expr} {ifs : List Expr} {scope : Scope} {own : List (Str × Nat)} {g : TG} {t : FTg} {tt : FTT} {fe : FT} (hc : X.calm = true) (hN : X.N.Nodup) (hi : PE X iter (tVar i)) (ok : BlkOk X.N X.env.scope scope own)
    (ct : ∀ E, CT X.K E (own.map (·.2)) g (ofG PX0 t)) (hg : ∀ (s : Shared) (H : Hp) (C : Addr) (cl : List (Str × Addr)) (fp : List Addr), PG (X.blk s H scope (compEnvC scope cl C X.env) fp) tg g)
    (ht : ∀ (E : Ent) (s : Shared) (H : Hp) (C : Addr) (cl : List (Str × Addr)) (fp : List Addr), PTs (X.blk s H scope (compEnvC scope cl C X.env) fp) ifs (tDT X.K E (ofT PX0 tt)))
    (he : ∀ (E : Ent) (s : Shared) (H : Hp) (C : Addr) (cl : List (Str × Addr)) (fp : List Addr), FE PX0 E (X.blk s H scope (compEnvC scope cl C X.env) fp) elt fe) (hs : ∀ x, foldedSetIterable iter X.env x = pure x := by intro _; rfl) :
    FE PX E X (.ListComp elt [⟨tg, iter, ifs, 0⟩] scope pos) (qLcO i t tt fe (own.map (·.2))) :=
  wkE (pe_lc (te := fun σ H Q => ∃ E, tD X.K E (dFz (ofT PX0 fe)) σ H Q) hc hN (pi_sq hi) ok hg (fun s H C cl fp => pts_any fun E => ht E s H C cl fp) (fun s H C cl fp => pe_any fun E => de_fz (he E s H C cl fp)) hs) fun st H Q h => lcO_main ct h
end
/-! ### calls without arguments -/
section
variable {PX : Exn → Prop} {X : Cx} {E : Ent} {p pos : Pos} {k : Nat} {x : Str} {ps : List Str} {ds : List Value} {dvs : List V} {f : Addr} {fd : FuncData} {sp : Sp} {EX : XK}
theorem pe_callG0 (F : FnG X.prog X.w X.K X.mg X.base k f fd ps sp) (hr : Room k X.A) (hgu : X.A.guards = some []) (hg : Gl X x) (hm : X.mg x = some (.ref f)) (hk : PySem.W.keepIn X.K (.ref f) = true)
    (hb : Binds X.K fd ps ds) (hd : Vals dvs ds) (hx : Passes (L2.CX X.prog X.w) X EX) (hdb : (x == ("__debug__" : Str)) = false := by decide) :
    PE X (.Call (.Name x p) [] [] pos) (tCall sp dvs EX L2.tNil) := by
  refine ⟨fun pins s σ H Q I h => ?_⟩
  refine wpAny_Call_Name_kw (ld_glob I hg hm ?_ hdb)
  exact PySem.W.callWith_K0 I.kIn hk (runG (us := []) F hr hgu hb hd hx I .nil h)
theorem qe_cal0 {n : Nat} {run : Run} (C : Cal X.prog X.w X.K X.mg X.base k x ps (SF run)) (hr : Room k X.A) (hgu : X.A.guards = some []) (hp : Passes (L2.CX X.prog X.w) X EX) (hx : RaisesOk X.K X.mg E PX EX) (hg : Gl X x) (hdb : (x == ("__debug__" : Str)) = false := by decide)
    (hn : ps.length = n := by rfl) : FE PX E X (.Call (.Name x p) [] [] pos) (qCall n run aNilQ) := by
  subst hn
  obtain ⟨f, fd, G, m, kp, b⟩ := C
  refine fe_of (de_callD (ha := ofT PX aNilQ) (EX := EX) (PX := PX) (wkE (pe_callG0 G hr hgu hg m kp b.1 .nil hp hdb) fun st H Q ⟨F, r, P, R, q, kk⟩ => kk _ _ _ _ _ q (.refl R) .nil (fun _ h => nomatch h)) hx fun _ _ _ q => q.1) fun r P p => ?_
  generalize aNilQ = ha at p ⊢
  unfold ofT qCall at p
  refine wp2_mono (wp2_bind2 p) fun ss r1 q => ?_
  unfold callK1 at q
  obtain ⟨as, e1, q⟩ := wp2_opt q
  unfold callK2 at q
  obtain ⟨hh, q⟩ := wp2_need q
  rw [Bool.and_eq_true] at hh
  have h1 := hh.1
  have h2 := natB_iff.mp hh.2
  exact ⟨as, e1, h1, h2, wp2_mono (wp2_bind2 q) fun s cs q => q⟩
end
end DL
set_option Elab.async false
set_option linter.all false
set_option autoImplicit false
set_option maxRecDepth 100000
set_option maxHeartbeats 4000000
/-! FLaa: x is True, x is None. -/
namespace DL
open PySem PySem.Spec PyProof.Rows L2 Out
section
variable {M : Model} {A : Around} {E : Value → Shared → Prop} {s : Shared} {Q : Value → Shared → Prop} {b : Bool}
theorem is_bool_gen {v : Value} (nb : ∀ p, v ≠ .builtin p) (h : Q (.bool (v == .bool b)) s) : wpAny M A (compareOp .Is v (.bool b)) Q E s := by
  cases v <;> first | exact wpAny_pure h | exact (nb _ rfl).elim
theorem isnot_bool_gen {v : Value} (nb : ∀ p, v ≠ .builtin p) (h : Q (.bool (!(v == .bool b))) s) : wpAny M A (compareOp .IsNot v (.bool b)) Q E s := by
  cases v <;> first | exact wpAny_pure h | exact (nb _ rfl).elim
end
section
variable {PX : Exn → Prop} {X : Cx} {E : Ent} {K : PySem.W.Frag} {F H : Hp} {e a : Expr} {pos pos' : Pos} {fa : FT} {ta : TE} {b : Bool} {v : V} {x : PyData}
theorem relV_nb {v : V} {u : Value} (r : RelV v u) (n : ∀ T, v ≠ .ty T) : ∀ p, u ≠ .builtin p := by
  intro p e
  subst e
  cases v with
  | ty T => exact n T rfl
  | non => cases r
  | bl _ => cases r
  | int _ => obtain ⟨t, z⟩ := r; cases z
  | str _ => obtain ⟨t, z⟩ := r; cases z
  | byt _ => obtain ⟨t, z⟩ := r; cases z
  | flt _ => obtain ⟨t, z⟩ := r; cases z
  | ref _ => cases r
theorem relV_isB {v : V} {u : Value} (r : RelV v u) : (u == Value.bool b) = decide (v = .bl b) := by
  cases v with
  | non => cases r; rfl
  | bl c => cases r; cases b <;> cases c <;> rfl
  | int _ => obtain ⟨t, rfl⟩ := r; rfl
  | str _ => obtain ⟨t, rfl⟩ := r; rfl
  | byt _ => obtain ⟨t, rfl⟩ := r; rfl
  | flt _ => obtain ⟨t, rfl⟩ := r; rfl
  | ref _ => cases r; rfl
  | ty _ => cases r; rfl
def tIsB (b neg : Bool) (ta : TE) : TE := fun σ H Q => ta σ H fun x H1 => (∀ T, x ≠ .ty T) ∧ Q (.bl (neg ^^ decide (x = .bl b))) H1
theorem pc_isB {j} (ha : PE X a ta) : PC X .Is a (.Constant (.bool b) j pos') (tIsB b false ta) := by
  refine ⟨fun pins s σ H Q I h => ?_⟩
  refine thn (ha.run pins s σ H _ I h) fun v s1 ⟨x, H1, I1, r1, nt, q1⟩ => ?_
  exact Constant_bool (is_bool_gen (relV_nb r1 nt) ⟨.bl _, H1, I1, by rw [relV_isB r1, Bool.false_xor]; rfl, q1⟩)
theorem pc_notB {j} (ha : PE X a ta) : PC X .IsNot a (.Constant (.bool b) j pos') (tIsB b true ta) := by
  refine ⟨fun pins s σ H Q I h => ?_⟩
  refine thn (ha.run pins s σ H _ I h) fun v s1 ⟨x, H1, I1, r1, nt, q1⟩ => ?_
  exact Constant_bool (isnot_bool_gen (relV_nb r1 nt) ⟨.bl _, H1, I1, by rw [relV_isB r1, Bool.true_xor]; rfl, q1⟩)
def isBD (b : Bool) : PyData → Bool
  | .bool c => c == b
  | _ => false
def isND : PyData → Bool
  | .none => true
  | _ => false
theorem rdv_isB (h : Rdv K F H v x) : decide (v = .bl b) = isBD b x := by
  rcases h with h | ⟨p, rfl, h⟩
  · cases h with
    | bl c => cases b <;> cases c <;> rfl
    | _ => rfl
  · cases x with
    | bool _ => exact h.elim
    | _ => rfl
theorem rdv_isN (h : Rdv K F H v x) : decide (v = .non) = isND x := by
  rcases h with h | ⟨p, rfl, h⟩
  · cases h with
    | _ => rfl
  · cases x with
    | none => exact h.elim
    | _ => rfl
theorem rdv_nt (h : Rdv K F H v x) : ∀ T, v ≠ .ty T := by
  rintro T rfl
  rcases h with h | ⟨p, e, h⟩
  · cases h
  · cases e
def isK2 (f : PyData → Bool) (r : DEnv) (x : PyData) : Out (Vl × DEnv) := .ok (.d (.bool (f x)), r)
def isK (f : PyData → Bool) (s : Vl) (r : DEnv) : Out (Vl × DEnv) := opt (rd r s) (isK2 f r)
def qIs (f : PyData → Bool) (fa : FT) (r : DEnv) : Out (Vl × DEnv) := bind2 (fa r) (isK f)
theorem isK2_eq (f : PyData → Bool) (r : DEnv) (x : PyData) : isK2 f r x = .ok (.d (.bool (f x)), r) := rfl2 rfl
theorem isK_eq (f : PyData → Bool) (s : Vl) (r : DEnv) : isK f s r = opt (rd r s) (isK2 f r) := rfl2 rfl
theorem qIs_eq (f : PyData → Bool) (fa : FT) (r : DEnv) : qIs f fa r = bind2 (fa r) (isK f) := rfl2 rfl
/-- what is told of a value's expression may be weakened -/
theorem tD_mono' {f : DT} {st : St} {Q Q' : VK} (h : tD K E f st H Q) (k : ∀ v H1, Q v H1 → Q' v H1) : tD K E f st H Q' := by
  obtain ⟨F, r, P, R, p, q⟩ := h
  exact ⟨F, r, P, R, p, fun s r' v F' H' a b c d => k _ _ (q s r' v F' H' a b c d)⟩
def isT (b neg : Bool) (x : PyData) : Bool := neg ^^ isBD b x
def isN (neg : Bool) (x : PyData) : Bool := neg ^^ isND x
theorem isT_bool (b neg c : Bool) : isT b neg (.bool c) = (neg ^^ (c == b)) := rfl2 rfl
theorem is_main {f : PyData → Bool} {st : St} {Q : VK} (h : tD X.K E (ofT PX (qIs f fa)) st H Q) : tD X.K E (ofT PX fa) st H fun v H1 => ∃ F1 x, Rdv X.K F1 H1 v x ∧ Q (.bl (f x)) H1 := by
  obtain ⟨F, r, P, R, p, k⟩ := h
  unfold ofT qIs at p
  refine ⟨F, r, _, R, wp2_bind2 p, fun s r1 v F1 H1 q A ok n => ?_⟩
  unfold isK at q
  obtain ⟨x, ex, q⟩ := wp2_opt q
  exact ⟨F1, x, A.rel.read ok ex, k _ _ _ _ _ q A (.bl _) trivial⟩
theorem pcq_isB {j} (ha : FE PX E X a fa) : PC X .Is a (.Constant (.bool b) j pos') (tD X.K E (ofT PX (qIs (isT b false) fa))) :=
  wkC (pc_isB ha) fun st H Q h => tD_mono' (is_main h) fun v H1 ⟨F1, x, g, q⟩ => ⟨rdv_nt g, by rw [rdv_isB g]; exact q⟩
theorem pcq_notB {j} (ha : FE PX E X a fa) : PC X .IsNot a (.Constant (.bool b) j pos') (tD X.K E (ofT PX (qIs (isT b true) fa))) :=
  wkC (pc_notB ha) fun st H Q h => tD_mono' (is_main h) fun v H1 ⟨F1, x, g, q⟩ => ⟨rdv_nt g, by rw [rdv_isB g]; exact q⟩
theorem pcq_isN {j} (ha : FE PX E X a fa) : PC X .Is a (.Constant .none j pos') (tD X.K E (ofT PX (qIs (isN false) fa))) :=
  wkC (pc_isN ha) fun st H Q h => tD_mono' (is_main h) fun v H1 ⟨F1, x, g, q⟩ => by
    have e := rdv_isN g
    rw [e]
    unfold isN at q
    rw [Bool.false_xor] at q
    exact q
theorem pcq_notN {j} (ha : FE PX E X a fa) : PC X .IsNot a (.Constant .none j pos') (tD X.K E (ofT PX (qIs (isN true) fa))) :=
  wkC (pc_notN ha) fun st H Q h => tD_mono' (is_main h) fun v H1 ⟨F1, x, g, q⟩ => by
    have e := rdv_isN g
    rw [e]
    unfold isN at q
    rw [Bool.true_xor] at q
    exact q
end
end DL
set_option Elab.async false
set_option linter.all false
set_option autoImplicit false
set_option maxRecDepth 100000
set_option maxHeartbeats 4000000
/-! FLab: tuple * k for k from 1 on. -/
namespace DL
open PySem PySem.Spec PyProof.Rows L2 Out
theorem tuple_mul1 (l : Addr) (items : Array Value) (n : Nat) (dd : Option Addr) (sl : Array (Option Value)) (u : Tok) :
    Meets (Builtin.«tuple.__mul__» ⟨[.ref l, .int 1 u], []⟩) (fun _ R s => s.heap.get? l = some { cls := .type "tuple", dict := dd, data := .seq items n, slots := sl } ∧ R (.ok (.ret (Value.ref l))) s) :=
  .of_wp fun prog w A R s h => by
    obtain ⟨hp, g, d, tk, os⟩ := s
    obtain ⟨hl, h⟩ := h
    have f1 := AutoSeq1.idx_int
    have c0 : (decide ((1 : Int) < -(2 ^ 63)) || decide ((1 : Int) ≥ 2 ^ 63)) = false := by decide
    have c1 : (items.isEmpty || (1 : Int) == 1) = true := by simp
    wp_walk using wpAny_loadPart' hl
    repeat (first
      | (refine wpAny_ite_false (decide_eq_false (by rw [c0]; exact Bool.false_ne_true)) ?_; wp_walk using wpAny_loadPart' hl)
      | (refine wpAny_ite_true (decide_eq_true (by rw [c1])) ?_; wp_walk using wpAny_loadPart' hl))
    exact ⟨_, rfl, h⟩
def rRepT1 (K : PySem.W.Frag) : R2 := fun x y H Q => ∃ l xs, x = .ref l ∧ y = .int 1 ∧ SqT K H l xs ∧ Q (.ref l) H
section
variable {PX : Exn → Prop} {X : Cx} {E : Ent} {K : PySem.W.Frag} {a b : Expr} {pos : Pos} {fa fb : FT}
theorem op_repT1 : OpR X (binaryOp .Mult) (rRepT1 X.K) := by
  intro pins s σ H x y v u Q I rx ry h
  obtain ⟨l, xs, rfl, rfl, hT, q⟩ := h
  cases rx
  obtain ⟨t, rfl⟩ := ry
  obtain ⟨its, r, ⟨⟨cls, dd, data, sl⟩, ho, hc, n, hd⟩, hs⟩ := I.tuple hT
  simp only at hc hd
  subst hc hd
  exact wpAny_binaryOp_repeat_ref (T := "tuple") (U := "int") (by decide) ⟨_, ho, rfl⟩ (fun s' => typeIs_int s' 1 t) noFill_tuple_mul F.fills_int_mul F.slot_int_rmul repeat_tuple F.slot_int_index.lookup
    (call_meets F.slot_int_rmul (typeIs_int s 1 t) F.entry_int_rmul (F.args_int_rmul_2 _ _) (int_rmul_tuple 1 t l its.toArray n dd sl)
      ⟨ho, rfl, ⟨_, ho, rfl⟩, call_meets F.slot_tuple_mul ⟨_, ho, rfl⟩ F.entry_tuple_mul (F.args_tuple_mul_2 _ _) (tuple_mul1 l its.toArray n dd sl t) ⟨ho, .ref l, H, I, rfl, q⟩⟩)
theorem op_repTT : OpR X (binaryOp .Mult) (fun x y H Q => rRepT X.K x y H Q ∨ rRepT1 X.K x y H Q) := by
  intro pins s σ H x y v u Q I rx ry h
  rcases h with h | h
  · exact op_repT pins s σ H x y v u Q I rx ry h
  · exact op_repT1 pins s σ H x y v u Q I rx ry h
def repPB (n : Nat) (k : Int) : Bool := decide (0 < n ∧ 1 ≤ k ∧ k ≤ 1000 ∧ n ≤ 1000)
theorem repPB_t {n : Nat} {k : Int} (h : 0 < n) (h1 : 1 ≤ k) (h2 : k ≤ 1000) (h3 : n ≤ 1000) : repPB n k = true := decide_eq_true ⟨h, h1, h2, h3⟩
def bRepP (x y z : PyData) : Prop := ∃ xs k, x = .tuple xs ∧ y = .int k ∧ xs ≠ [] ∧ 1 ≤ k ∧ k ≤ 1000 ∧ xs.length ≤ 1000 ∧ z = .tuple (List.replicate k.toNat xs).flatten
theorem opB_repP : OpB K (fun x y H Q => rRepT K x y H Q ∨ rRepT1 K x y H Q) bRepP := by
  intro F H v w x y z Q g h1 h2 ⟨xs, k, e1, e2, hne, k0, k1, hl, e3⟩ hy
  by_cases k2 : k = 1
  · subst k2 e1 e2 e3
    refine .inr ?_
    have h2 := h2.int
    subst h2
    have hz : (List.replicate (1 : Int).toNat xs).flatten = xs := by
      show (List.replicate 1 xs).flatten = xs
      simp
    rw [hz] at hy
    rcases h1 with h1 | ⟨p, rfl, h1⟩
    · cases h1 with
      | tup a b => exact ⟨_, _, rfl, rfl, g.tup (SqT.of a), hy.1 _ (.tup a b)⟩
    · exact h1.elim
  · exact .inl (opB_repT F H v w x y z Q g h1 h2 ⟨xs, k, e1, e2, hne, by omega, k1, hl, e3⟩ hy)
def opRepP (x y : PyData) : Option Vl := match x, y with
  | .tuple xs, .int k => onee (repPB xs.length k) (some (.d (.tuple (List.replicate k.toNat xs).flatten)))
  | _, _ => none
theorem opRepP_tup {xs : List PyData} {k : Int} : opRepP (.tuple xs) (.int k) = onee (repPB xs.length k) (some (.d (.tuple (List.replicate k.toNat xs).flatten))) := rfl2 rfl
theorem qe_repP (ha : FE PX E X a fa) (hb : FE PX E X b fb) : FE PX E X (.BinOp a .Mult b pos) (qOp opRepP fa fb) := qe_opD (de_op op_repTT opB_repP ha hb) fun x y w h => by
  unfold opRepP at h
  split at h
  · obtain ⟨hh, h3⟩ := onee_some h
    cases h3
    obtain ⟨h1, h2, h4, h5⟩ := of_decide_eq_true hh
    exact ⟨_, rfl, _, _, rfl, rfl, fun e => by rw [e] at h1; exact absurd h1 (by decide), h2, h4, h5, rfl⟩
  · cases h
end
end DL
set_option Elab.async false
set_option linter.all false
set_option autoImplicit false
set_option maxRecDepth 100000
set_option maxHeartbeats 4000000
/-! FLac: min(xs), max(xs) of a list or a tuple of alike data. -/
namespace DL
open PySem PySem.Spec PyProof.Rows L2 Out
def noneD : PyData → Bool
  | .none => true
  | _ => false
def mnB (ds : List PyData) : Bool := ds.all (fun d => !noneD d && ds.all (PySem.W.alike d)) && ds.all fun d => Nat.ble d.depth 60
theorem depthAll_le {n : Nat} : ∀ {ds : List PyData}, (∀ d ∈ ds, d.depth ≤ n) → PyData.depthAll ds ≤ n
  | [], _ => by simp [PyData.depthAll]
  | d :: ds, h => by
    have := depthAll_le fun d' hd => h d' (List.mem_cons_of_mem _ hd)
    have := h d List.mem_cons_self
    rw [PyData.depthAll]
    omega
theorem mnB_ok {ds : List PyData} (h : mnB ds = true) : PySem.W.AlikeAll ds ∧ PyData.depthAll ds ≤ 60 := by
  unfold mnB at h
  rw [Bool.and_eq_true] at h
  obtain ⟨h1, h2⟩ := h
  have g : ∀ d ∈ ds, noneD d = false ∧ ∀ e ∈ ds, PySem.W.alike d e = true := fun d hd => by
    have q := List.all_eq_true.mp h1 d hd
    rw [Bool.and_eq_true, Bool.not_eq_true'] at q
    exact ⟨q.1, fun e he => List.all_eq_true.mp q.2 e he⟩
  refine ⟨⟨fun x hx y hy => (g x hx).2 y hy, fun x hx e => ?_⟩, depthAll_le fun d hd => Nat.le_of_ble_eq_true (List.all_eq_true.mp h2 d hd)⟩
  have := (g x hx).1
  rw [e] at this
  cases this
theorem mnB_t {ds : List PyData} (h : ∀ d ∈ ds, noneD d = false ∧ d.depth ≤ 60 ∧ ∀ e ∈ ds, PySem.W.alike d e = true) : mnB ds = true := by
  unfold mnB
  rw [Bool.and_eq_true]
  refine ⟨List.all_eq_true.mpr fun d hd => ?_, List.all_eq_true.mpr fun d hd => Nat.ble_eq_true_of_le (h d hd).2.1⟩
  rw [Bool.and_eq_true, Bool.not_eq_true']
  exact ⟨(h d hd).1, List.all_eq_true.mpr fun e he => (h d hd).2.2 e he⟩
theorem mnB_ints (ns : List Int) : mnB (ns.map .int) = true := mnB_t fun d hd => by
  obtain ⟨n, _, rfl⟩ := List.mem_map.mp hd
  refine ⟨rfl, by simp [PyData.depth], fun e he => ?_⟩
  obtain ⟨m, _, rfl⟩ := List.mem_map.mp he
  simp [PySem.W.alike]
section
variable {PX : Exn → Prop} {X : Cx} {E : Ent} {K : PySem.W.Frag} {F H : Hp} {e : Expr} {p pos : Pos} {ga : DTA} {ha : FTA} {k : Nat}
def rExtD (f : PyData → List PyData → PyData) (K : PySem.W.Frag) : List V → Hp → VK → Prop := fun vs H Q => ∃ (a : Addr) (xs : List V) (d : PyData) (ds : List PyData) (P : V → PyData → Prop), vs = [.ref a] ∧ (SqL K H a xs ∨ SqT K H a xs) ∧ Paired P xs (d :: ds) ∧ (∀ v, ∀ d' ∈ d :: ds, P v d' → Dp K H v d') ∧ mnB (d :: ds) = true ∧
  ∀ v, P v (f d ds) → f d ds ∈ d :: ds → Q v H
theorem pair_at {P : V → PyData → Prop} : ∀ {xs : List V} {us : List Value} {ds : List PyData} {i : Nat} {v : Value}, Vals xs us → Paired P xs ds → us[i]? = some v → ∃ x d, RelV x v ∧ P x d ∧ d ∈ ds
  | _, _, _, _, _, .nil, .nil, h => by simp at h
  | _, _, _, 0, v, .cons r t, .cons q u, h => by
    simp at h
    subst h
    exact ⟨_, _, r, q, List.mem_cons_self⟩
  | _, _, _, i + 1, v, .cons r t, .cons q u, h => by
    obtain ⟨x, d, a, b, c⟩ := pair_at t u (i := i) (v := v) (by simpa using h)
    exact ⟨x, d, a, b, List.mem_cons_of_mem _ c⟩
theorem reads_of_pair {pins : List (Addr × Obj)} {σ : L2.St} {s : Shared} {P : V → PyData → Prop} (I : Inv X pins σ H s) : ∀ {xs : List V} {us : List Value} {ds : List PyData}, Vals xs us → Paired P xs ds → (∀ v, ∀ d ∈ ds, P v d → Dp X.K H v d) → ∃ as, PySem.ReadsAll s.heap us ds as
  | _, _, _, .nil, .nil, _ => ⟨_, .nil⟩
  | _, _, _, .cons r t, .cons q u, h => by
    obtain ⟨as, ra⟩ := Dp.reads I _ _ _ (h _ _ List.mem_cons_self q) r
    obtain ⟨bs, rb⟩ := reads_of_pair I t u fun v d hd => h v d (List.mem_cons_of_mem _ hd)
    exact ⟨_, .cons ra rb⟩
theorem cr_maxD (hc : X.calm = true) (hu : X.A.units + 66 < cLine) : CallR X (.builtin "max") (rExtD PySem.W.maxD X.K) := by
  intro pins s σ H vs us Q I r h
  obtain ⟨a, xs, d, ds, P, rfl, hs, hp, hd, hb, q⟩ := h
  obtain ⟨h1, h2⟩ := mnB_ok hb
  rw [Vals.ref1 r]
  have fin : ∀ (its : List Value), Vals xs its → ∀ (i : Nat) (v : Value) (h' : Heap) (tk : _) (bs : List Addr), its[i]? = some v → Reads h' v (PySem.W.maxD d ds) bs → (∀ b o, s.heap.get? b = some o → h'.get? b = some o) → EP X pins σ Q v { s with heap := h', toks := tk } := by
    intro its rv i v h' tk bs hi rd hk
    obtain ⟨x, d', a1, a2, a3⟩ := pair_at rv hp hi
    obtain ⟨as, r1⟩ := Dp.reads I d' x v (hd x d' a3 a2) a1
    obtain ⟨e1, _⟩ := PyProof.Rows.reads_det (fun b o e _ => hk b o e) r1 rd
    rw [← e1] at a2 a3
    exact ⟨x, H, I.kept hk, a1, q x a2 a3⟩
  rcases hs with hs | hs
  · obtain ⟨its, rv, hl, _⟩ := I.list hs
    obtain ⟨as, ra⟩ := reads_of_pair I rv hp hd
    exact PySem.W.max_list_data (I.ok.hd hc) hl.isList (by simpa using ra) h1 (by omega) fun i v h' tk bs hi rd hk => fin its rv i v h' tk bs (by simpa using hi) rd hk
  · obtain ⟨its, rv, hl, _⟩ := I.tuple hs
    obtain ⟨as, ra⟩ := reads_of_pair I rv hp hd
    exact PySem.W.max_tuple_data (I.ok.hd hc) hl (by simpa using ra) h1 (by omega) fun i v h' tk bs hi rd hk => fin its rv i v h' tk bs (by simpa using hi) rd hk
theorem cr_minD (hc : X.calm = true) (hu : X.A.units + 66 < cLine) : CallR X (.builtin "min") (rExtD PySem.W.minD X.K) := by
  intro pins s σ H vs us Q I r h
  obtain ⟨a, xs, d, ds, P, rfl, hs, hp, hd, hb, q⟩ := h
  obtain ⟨h1, h2⟩ := mnB_ok hb
  rw [Vals.ref1 r]
  have fin : ∀ (its : List Value), Vals xs its → ∀ (i : Nat) (v : Value) (h' : Heap) (tk : _) (bs : List Addr), its[i]? = some v → Reads h' v (PySem.W.minD d ds) bs → (∀ b o, s.heap.get? b = some o → h'.get? b = some o) → EP X pins σ Q v { s with heap := h', toks := tk } := by
    intro its rv i v h' tk bs hi rd hk
    obtain ⟨x, d', a1, a2, a3⟩ := pair_at rv hp hi
    obtain ⟨as, r1⟩ := Dp.reads I d' x v (hd x d' a3 a2) a1
    obtain ⟨e1, _⟩ := PyProof.Rows.reads_det (fun b o e _ => hk b o e) r1 rd
    rw [← e1] at a2 a3
    exact ⟨x, H, I.kept hk, a1, q x a2 a3⟩
  rcases hs with hs | hs
  · obtain ⟨its, rv, hl, _⟩ := I.list hs
    obtain ⟨as, ra⟩ := reads_of_pair I rv hp hd
    exact PySem.W.min_list_data (I.ok.hd hc) hl.isList (by simpa using ra) h1 (by omega) fun i v h' tk bs hi rd hk => fin its rv i v h' tk bs (by simpa using hi) rd hk
  · obtain ⟨its, rv, hl, _⟩ := I.tuple hs
    obtain ⟨as, ra⟩ := reads_of_pair I rv hp hd
    exact PySem.W.min_tuple_data (I.ok.hd hc) hl (by simpa using ra) h1 (by omega) fun i v h' tk bs hi rd hk => fin its rv i v h' tk bs (by simpa using hi) rd hk
def bExtD (f : PyData → List PyData → PyData) : List PyData → PyData → Prop := fun as z => ∃ (d : PyData) (ds : List PyData), (as = [.list (d :: ds)] ∨ as = [.tuple (d :: ds)]) ∧ mnB (d :: ds) = true ∧ z = f d ds
theorem de_extD {nm : String} {f : PyData → List PyData → PyData} (cr : CallR X (.builtin nm) (rExtD f X.K)) (hw : (nm == "locals") = false) (hg : Gl X nm) (hm : X.mg nm = none) (h : DA E X [e] ga) (h1 : PE X (.Call (.Name nm p) [e] [] pos) (tCB (rExtD f X.K) (tDA X.K E ga))) :
    DE E X (.Call (.Name nm p) [e] [] pos) (dB (bExtD f) ga) := by
  refine de_call h1 ?_
  intro F H vs xs z Q g rv ⟨d, ds, e, hb, ez⟩ hy
  subst ez
  obtain ⟨h1, h2⟩ := mnB_ok hb
  have nd : ∀ d' ∈ d :: ds, noDic d' = true := fun d' hd => alike_nd d' (h1.1 d' hd d' hd)
  rcases e with e | e
  · subst e
    cases rv with
    | cons rx t =>
      cases t
      obtain ⟨q, ws, ev, hs, rs⟩ := rx.seq g
      subst ev
      exact ⟨q, ws, d, ds, Rp X.K F, rfl, .inl hs, pair_of_rps rs, fun v d' hd hp => toDp g hp (nd d' hd), hb, fun v hv _ => hy.1 v hv⟩
  · subst e
    cases rv with
    | cons rx t =>
      cases t
      obtain ⟨q, ws, ev, hs, rs⟩ := rx.tup g
      subst ev
      exact ⟨q, ws, d, ds, Rp X.K F, rfl, .inr hs, pair_of_rps rs, fun v d' hd hp => toDp g hp (nd d' hd), hb, fun v hv _ => hy.1 v hv⟩
def extK (f : PyData → List PyData → PyData) : List PyData → Option Vl
  | d :: ds => onee (mnB (d :: ds)) (some (.d (f d ds)))
  | [] => none
theorem extK_c (f : PyData → List PyData → PyData) (d : PyData) (ds : List PyData) : extK f (d :: ds) = onee (mnB (d :: ds)) (some (.d (f d ds))) := rfl2 rfl
def biMaxD : Bi
  | [.list xs] => extK PySem.W.maxD xs
  | [.tuple xs] => extK PySem.W.maxD xs
  | _ => none
def biMinD : Bi
  | [.list xs] => extK PySem.W.minD xs
  | [.tuple xs] => extK PySem.W.minD xs
  | _ => none
theorem biMaxD_l (xs : List PyData) : biMaxD [.list xs] = extK PySem.W.maxD xs := rfl2 rfl
theorem biMaxD_t (xs : List PyData) : biMaxD [.tuple xs] = extK PySem.W.maxD xs := rfl2 rfl
theorem biMinD_l (xs : List PyData) : biMinD [.list xs] = extK PySem.W.minD xs := rfl2 rfl
theorem biMinD_t (xs : List PyData) : biMinD [.tuple xs] = extK PySem.W.minD xs := rfl2 rfl
theorem extK_some {f : PyData → List PyData → PyData} {xs : List PyData} {w : Vl} (h : extK f xs = some w) : ∃ d ds, xs = d :: ds ∧ mnB (d :: ds) = true ∧ w = .d (f d ds) := by
  cases xs with
  | nil => cases h
  | cons d ds =>
    obtain ⟨a, b⟩ := onee_some (show onee _ _ = _ from h)
    cases b
    exact ⟨d, ds, rfl, a, rfl⟩
theorem qe_maxD (hr : Room k X.A) (hc : X.calm = true) (hg : Gl X "max") (hm : X.mg "max" = none) (h : FA PX E X [e] ha) (he : starEach [e] X.env = (false, eval e X.env) :: starEach [] X.env := by rfl) (hpl : (backTo pos (starEach [] X.env)).any (·.1) = false := by rfl) :
    FE PX E X (.Call (.Name "max" p) [e] [] pos) (qB biMaxD ha) := qe_bi (de_extD (cr_maxD hc (Room.u66 hr)) (by decide +kernel) hg hm h (pe_callB (cr_maxD hc (Room.u66 hr)) hg hm (by decide +kernel) h (by decide) (by decide) he hpl)) fun xs w h => by
  unfold biMaxD at h
  split at h
  · obtain ⟨d, ds, e1, e2, e3⟩ := extK_some h
    exact ⟨_, e3, d, ds, .inl (by rw [e1]), e2, rfl⟩
  · obtain ⟨d, ds, e1, e2, e3⟩ := extK_some h
    exact ⟨_, e3, d, ds, .inr (by rw [e1]), e2, rfl⟩
  · cases h
theorem qe_minD (hr : Room k X.A) (hc : X.calm = true) (hg : Gl X "min") (hm : X.mg "min" = none) (h : FA PX E X [e] ha) (he : starEach [e] X.env = (false, eval e X.env) :: starEach [] X.env := by rfl) (hpl : (backTo pos (starEach [] X.env)).any (·.1) = false := by rfl) :
    FE PX E X (.Call (.Name "min" p) [e] [] pos) (qB biMinD ha) := qe_bi (de_extD (cr_minD hc (Room.u66 hr)) (by decide +kernel) hg hm h (pe_callB (cr_minD hc (Room.u66 hr)) hg hm (by decide +kernel) h (by decide) (by decide) he hpl)) fun xs w h => by
  unfold biMinD at h
  split at h
  · obtain ⟨d, ds, e1, e2, e3⟩ := extK_some h
    exact ⟨_, e3, d, ds, .inl (by rw [e1]), e2, rfl⟩
  · obtain ⟨d, ds, e1, e2, e3⟩ := extK_some h
    exact ⟨_, e3, d, ds, .inr (by rw [e1]), e2, rfl⟩
  · cases h
theorem maxD_ii (a b : Int) : PySem.W.maxD (.int a) [.int b] = .int (max a b) := PySem.W.maxD_ints a [b]
end
end DL
set_option Elab.async false
set_option linter.all false
set_option autoImplicit false
set_option maxRecDepth 100000
set_option maxHeartbeats 4000000
/-! FLad: calls in which every parameter is given by its name, the last one first. -/
namespace DL
open PySem PySem.Spec PyProof.Rows L2 Out
section
variable {PX : Exn → Prop} {X : Cx} {E : Ent} {p pos kpos : Pos} {k : Nat} {x : Str} {ps ks : List Str} {f : Addr} {fd : FuncData} {sp : Sp} {EX : XK} {kws : List Keyword} {tk : TA} {e : Expr} {nm : Option Str}
/-- vals, the other way round -/
theorem vals_rev {vs : List V} {us : List Value} (h : Vals vs us) : Vals vs.reverse us.reverse := by
  induction h with
  | nil => exact .nil
  | cons a _ ih =>
    rw [List.reverse_cons, List.reverse_cons]
    exact ih.append (.cons a .nil)
theorem runKw {pins : List (Addr × Obj)} {σ : L2.St} {H : Hp} {s : Shared} {Q : VK} {ws : List Value} {zs : List V} (F : FnG X.prog X.w X.K X.mg X.base k f fd ps sp) (hr : Room k X.A) (hgu : X.A.guards = some [])
    (hb : KwB fd ps) (hx : Passes (L2.CX X.prog X.w) X EX) (I : Inv X pins σ H s) (r : Vals zs ws) (h : sp zs.reverse H Q EX) :
    wpAny (model X.prog X.w) X.A (call (.ref f) [] (ps.reverse.zip ws)) (EP X pins σ Q) X.xe s := by
  have r2 := vals_rev r
  have hl : ws.length = ps.length := by
    have a := F.len _ _ _ _ h
    rw [List.length_reverse] at a
    rw [← r.length, a]
  have go := F.go X.A X.stack s H ⟨[], ps.reverse.zip ws⟩ ws.reverse zs.reverse Q EX hr hgu I.env0 (hb s ws hl) r2 h
  refine wpAny_call (codeAny_mono go fun out s2 hq => ?_)
  cases out with
  | error y => exact hx pins σ H s y s2 I hq
  | ok fl => cases fl with
    | ret u => exact I.after hq
    | next => exact hq.elim
    | brk => exact hq.elim
    | cont => exact hq.elim
def tRev (t : TA) : TA := fun σ H Q => t σ H fun vs H1 => Q vs.reverse H1
theorem pe_callKw (F : FnG X.prog X.w X.K X.mg X.base k f fd ps sp) (hr : Room k X.A) (hgu : X.A.guards = some []) (hg : Gl X x) (hm : X.mg x = some (.ref f)) (hk : PySem.W.keepIn X.K (.ref f) = true)
    (hb : KwB fd ps) (hx : Passes (L2.CX X.prog X.w) X EX) (hkw : PK X kws tk) (hks : (backToKw pos (keywordEach kws X.env)).filterMap (·.1) = ps.reverse)
    (hdb : (x == ("__debug__" : Str)) = false := by decide) (hall : (backToKw pos (keywordEach kws X.env)).all (·.1.isSome) = true := by rfl)
    (hpl : ((backTo pos (starEach [] X.env)).any (·.1) || (backToKw pos (keywordEach kws X.env)).any (·.1.isNone)) = false := by rfl) : PE X (.Call (.Name x p) [] kws pos) (tCall sp [] EX (tRev tk)) := by
  refine ⟨fun pins s σ H Q I h => wpAny_Call_Name_kw (ld_glob I hg hm ?_ hdb)⟩
  refine PySem.W.callWith_KW0 (h₀ := X.base) I.ok.mod.kin hk hall (thn (hkw.run pos pins s σ H _ I h) fun ws s2 ⟨zs, H2, I2, rz, q2⟩ => ⟨I2.kIn, ?_⟩) hpl
  rw [hks]
  have q2 : sp (zs.reverse ++ []) H2 Q EX := q2
  rw [List.append_nil] at q2
  exact runKw F hr hgu hb hx I2 rz q2
end
/-! ### in the layer -/
def aRevK (ss : List Vl) (r : DEnv) : Out (List Vl × DEnv) := .ok (ss.reverse, r)
def aRevQ (ha : FTA) (r : DEnv) : Out (List Vl × DEnv) := bind2 (ha r) aRevK
theorem aRevK_eq (ss : List Vl) (r : DEnv) : aRevK ss r = .ok (ss.reverse, r) := rfl2 rfl
theorem aRevQ_eq (ha : FTA) (r : DEnv) : aRevQ ha r = bind2 (ha r) aRevK := rfl2 rfl
section
variable {PX : Exn → Prop} {X : Cx} {E : Ent} {p pos kpos : Pos} {k : Nat} {x : Str} {ps : List Str} {EX : XK} {kws : List Keyword} {e : Expr} {nm : Option Str} {fa : FT} {ha : FTA}
abbrev FK (PX : Exn → Prop) (E : Ent) (X : Cx) (kws : List Keyword) (f : FTA) : Prop := PK X kws (tDA X.K E (ofT PX f))
theorem wkK {t t' : TA} (h : PK X kws t) (k : ∀ st H Q, t' st H Q → t st H Q) : PK X kws t' := ⟨fun pos pins s st H Q I q => h.run pos pins s st H Q I (k _ _ _ q)⟩
theorem qk_nil : FK PX E X [] aNilQ := wkK pk_nil fun st H Q ⟨F, r, P, R, p, kk⟩ => kk _ _ _ _ _ p (.refl R) .nil (fun _ h => nomatch h)
theorem qk_cons (h : FE PX E X e fa) (t : FK PX E X kws ha) : FK PX E X (⟨nm, e, kpos⟩ :: kws) (aConsQ fa ha) := by
  refine wkK (pk_cons h t) fun st H Q ⟨F, r, P, R, p, kk⟩ => ?_
  have p : (bind2 (fa r) (acK1 ha)).wp2 PX P := p
  refine ⟨F, r, _, R, wp2_bind2 p, fun s r1 v F1 H1 q1 A1 ok1 n1 => ?_⟩
  have old : s.old = true ∧ (ofT PX ha) r1 fun ss r2 => P (s :: ss) r2 := by
    unfold acK1 at q1
    split at q1
    · exact q1.elim
    · exact ⟨rfl, wp2_mono (wp2_bind2 q1) fun ss r2 q => q⟩
    · exact ⟨rfl, wp2_mono (wp2_bind2 q1) fun ss r2 q => q⟩
  refine ⟨F1, r1, _, A1.rel, old.2, fun ss r2 vs F2 H2 q2 A2 ok2 o2 => kk _ _ _ _ _ q2 (A1.trans A2) (.cons (ok1.aft A2) ok2) fun u hu => ?_⟩
  rcases List.mem_cons.mp hu with rfl | hu
  · exact old.1
  · exact o2 u hu
theorem paired_app {α β : Type} {R : α → β → Prop} {xs xs' : List α} {ys ys' : List β} (h : Paired R xs ys) (t : Paired R xs' ys') : Paired R (xs ++ xs') (ys ++ ys') := by
  induction h with
  | nil => exact t
  | cons a _ ih => exact .cons a ih
theorem paired_rev {α β : Type} {R : α → β → Prop} {xs : List α} {ys : List β} (h : Paired R xs ys) : Paired R xs.reverse ys.reverse := by
  induction h with
  | nil => exact .nil
  | cons a _ ih =>
    rw [List.reverse_cons, List.reverse_cons]
    exact paired_app ih (.cons a .nil)
theorem tDA_rev {st : L2.St} {H : Hp} {Q : List V → Hp → Prop} (h : tDA X.K E (ofT PX (aRevQ ha)) st H Q) : tRev (tDA X.K E (ofT PX ha)) st H Q := by
  obtain ⟨F, r, P, R, p, kk⟩ := h
  have p : (bind2 (ha r) aRevK).wp2 PX P := p
  refine ⟨F, r, _, R, wp2_bind2 p, fun ss r1 vs F1 H1 q1 A1 ok1 o1 => ?_⟩
  have q1 : P ss.reverse r1 := q1
  exact kk _ _ _ _ _ q1 A1 (paired_rev ok1) fun s hs => o1 s (List.mem_reverse.mp hs)
theorem qe_calK {n : Nat} {run : Run} (C : Cal X.prog X.w X.K X.mg X.base k x ps (SF run)) (hr : Room k X.A) (hgu : X.A.guards = some []) (hp : Passes (L2.CX X.prog X.w) X EX) (hx : RaisesOk X.K X.mg E PX EX) (hg : Gl X x) (h : FK PX E X kws ha)
    (hks : (backToKw pos (keywordEach kws X.env)).filterMap (·.1) = ps.reverse := by rfl) (hdb : (x == ("__debug__" : Str)) = false := by decide) (hall : (backToKw pos (keywordEach kws X.env)).all (·.1.isSome) = true := by rfl)
    (hpl : ((backTo pos (starEach [] X.env)).any (·.1) || (backToKw pos (keywordEach kws X.env)).any (·.1.isNone)) = false := by rfl) (hn : ps.length = n := by rfl) : FE PX E X (.Call (.Name x p) [] kws pos) (qCall n run (aRevQ ha)) := by
  subst hn
  obtain ⟨f, fd, G, m, kp, b⟩ := C
  refine fe_of (de_callD (ha := ofT PX (aRevQ ha)) (EX := EX) (PX := PX) (wkE (pe_callKw G hr hgu hg m kp b.2 hp h hks hdb hall hpl) fun st H Q q => tDA_rev q) hx fun _ _ _ q => q.1) fun r P p => ?_
  generalize aRevQ ha = ha at p ⊢
  unfold ofT qCall at p
  refine wp2_mono (wp2_bind2 p) fun ss r1 q => ?_
  unfold callK1 at q
  obtain ⟨as, e1, q⟩ := wp2_opt q
  unfold callK2 at q
  obtain ⟨hh, q⟩ := wp2_need q
  rw [Bool.and_eq_true] at hh
  exact ⟨as, e1, hh.1, natB_iff.mp hh.2, wp2_mono (wp2_bind2 q) fun s cs q => q⟩
end
end DL
set_option Elab.async false
set_option linter.all false
set_option autoImplicit false
set_option maxRecDepth 100000
set_option maxHeartbeats 4000000
/-! FLae: sorted({..}): comprehensions of sets of ints. -/
namespace DL
open PySem PySem.Spec PyProof.Rows L2 Out
section
variable {X : Cx} {pins : List (Addr × Obj)} {σ : L2.St} {H : Hp} {s : Shared}
theorem addI_ok {EE : Value → Shared → Prop} {D : Addr} {S : Int → Bool} {n : Nat} {k : Int} {tk : Tok} {Q : Value → Shared → Prop} (I : Inv X pins σ H s) (hD : H D = some (SetO X.w D S n)) (room : n + 1 < scanBound)
    (go : ∀ s2, Inv X pins σ (upd H D (SetO X.w D (fun j => S j || decide (j = k)) (if S k = true then n else n + 1))) s2 → Q .none s2) : wpAny (model X.prog X.w) X.A (call (.builtin "set.add") [.ref D, .int k tk]) Q EE s :=
  setR_add (setO_get I hD) room fun h2 only R2 => go _ (I.write (e := D) (t' := s.toks + 1) (by rw [hD]; trivial) (.inl rfl) (fun b u ne hu => (only.2 b ne).trans hu) (let ⟨o, _, _, _, ho, _⟩ := R2; ⟨o, ho⟩) (setO_new R2))
/-- what a comprehension of a set of ints asks: D the set -/
def tScI (w : World) (wi : TI) (g : TG) (tt : TT) (te : TE) (vs : List Nat) : TE := fun σ H Q => wi σ H fun J H1 => ∀ D, H1 D = none → ∃ W : Nat → Nat → Hp → Prop, (∃ m, W 0 m (upd H1 D (SetO w D (fun _ => false) 0))) ∧ ∀ i m H, W i m H →
  (J.stop i H ∧ Q (.ref D) H) ∨ (J.go i H ∧ ∃ Nx : Hp → Prop, (∀ H2, Nx H2 → ∃ m2, m2 < m ∧ W (i + 1) m2 H2) ∧ ∀ x H2, J.yld i H x H2 → g x (wipe σ vs) H2 fun σ3 H3 => wipe σ3 vs = wipe σ vs ∧ tt σ3 H3 fun b H4 =>
    if b = true then te σ3 H4 fun y H5 => ∃ (k : Int) (S : Int → Bool) (n : Nat), y = .int k ∧ H5 D = some (SetO w D S n) ∧ n + 1 < scanBound ∧ Nx (upd H5 D (SetO w D (fun j => S j || decide (j = k)) (if S k = true then n else n + 1))) else Nx H4)
theorem pe_scI {elt tg iter : Expr} {ifs : List Expr} {scope : Scope} {own : List (Str × Nat)} {pos : Pos} {wi : TI} {g : TG} {tt : TT} {te : TE} (hc : X.calm = true) (hN : X.N.Nodup) (hi : PI X tg iter wi) (ok : BlkOk X.N X.env.scope scope own)
    (hg : ∀ (s : Shared) (H : Hp) (C : Addr) (cl : List (Str × Addr)) (fp : List Addr), PG (X.blk s H scope (compEnvC scope cl C X.env) fp) tg g) (ht : ∀ (s : Shared) (H : Hp) (C : Addr) (cl : List (Str × Addr)) (fp : List Addr), PTs (X.blk s H scope (compEnvC scope cl C X.env) fp) ifs tt)
    (he : ∀ (s : Shared) (H : Hp) (C : Addr) (cl : List (Str × Addr)) (fp : List Addr), PE (X.blk s H scope (compEnvC scope cl C X.env) fp) elt te) (hs : ∀ x, foldedSetIterable iter X.env x = pure x := by intro _; rfl) :
    PE X (.SetComp elt [⟨tg, iter, ifs, 0⟩] scope pos) (tScI X.w wi g tt te (own.map (·.2))) := by
  refine ⟨fun pins s σ H Q I h => ?_⟩
  rw [PpSet.eval_SetComp]
  have clos : ∀ y ∈ scope.names, y.2 = .free → ∃ c, X.env.cells.lookup y.1 = some c := fun y hy e => (ok.free y hy e).elim (fun z => I.ok.has _ (.inl z)) fun z => I.ok.has _ (.inr z)
  refine wpAny_comprehension_free (use := none) rfl hs (closure_ok clos) ok.kind (fun y hy e => by rw [ok.uniq y hy, e]) (thn (hi.run pins s σ H _ I h) fun xv sa hx => thn hx fun itv sb q => ?_)
  obtain ⟨it, fp, tn, J, Hb, e, Ib, T, stb, fb, q⟩ := q
  subst e
  refine PpSet.newSet_ok (newEnv_comp ?_)
  obtain ⟨D, hD⟩ : ∃ D, D = sb.heap.objs.size := ⟨_, rfl⟩
  rw [← hD]
  obtain ⟨W, ⟨m0, w0⟩, turn⟩ := q D (Ib.hok.fresh (Nat.le_of_eq hD.symm))
  -- the set is there
  obtain ⟨sc, hsc⟩ : ∃ sc : Shared, sc = { sb with heap := sb.heap.push (newSetO X.w) } := ⟨_, rfl⟩
  have hch : sc.heap = sb.heap.push (newSetO X.w) := by rw [hsc]
  obtain ⟨Hc, hHc⟩ : ∃ Hc, Hc = upd Hb D (SetO X.w D (fun _ => false) 0) := ⟨_, rfl⟩
  rw [← hHc] at w0
  have Ic : Inv X pins σ Hc sc := by
    rw [hHc, hsc, hD]
    exact Ib.laid (t' := sb.toks) (fun b u z => Heap.get?_push_of_some _ z) (Nat.le_refl _) (setO_new (setR_fresh X.w))
  have fpc : ∀ b ∈ fp, FpOk X pins Hc b ∧ b < sc.heap.objs.size := fun b hb => by
    obtain ⟨u, z, _⟩ := T.obj _ _ stb b hb
    have lt := Heap.lt_size z
    refine ⟨⟨?_, (fb b hb).2⟩, by rw [hch, Heap.size_push]; exact Nat.lt_succ_of_lt lt⟩
    rw [hHc, upd_ne (by rw [hD]; exact Nat.ne_of_lt lt)]
    exact (fb b hb).1
  have stc : tn 0 sc.heap := T.keep _ _ _ stb fun b _ u z => by rw [hch]; exact Heap.get?_push_of_some _ z
  have Id := block_start Ic ok hN fpc
  have kg := hg sc Hc sc.heap.objs.size (cellsFrom (sc.heap.objs.size + 1) scope.names (cloFrom X.env.cells scope.names [])) fp
  have kt := ht sc Hc sc.heap.objs.size (cellsFrom (sc.heap.objs.size + 1) scope.names (cloFrom X.env.cells scope.names [])) fp
  have ke := he sc Hc sc.heap.objs.size (cellsFrom (sc.heap.objs.size + 1) scope.names (cloFrom X.env.cells scope.names [])) fp
  have goal_is : codeAny (model X.prog X.w) X.A (.compStart (.SetComp elt [⟨tg, iter, ifs, 0⟩] scope pos) 0 (.ref it) (.ref D) (compEnvC scope (cellsFrom (sc.heap.objs.size + 1) scope.names (cloFrom X.env.cells scope.names [])) sc.heap.objs.size X.env)) (compPost (model X.prog X.w) X.A X.xe none (EP X pins σ Q) (.ref D) sc.heap.objs.size) { sc with heap := pushCells (sc.heap.push { cls := .type "dict", data := .dict #[] }) scope.names } → _ := fun z => z
  rw [hsc] at goal_is
  rw [hD] at goal_is ⊢
  refine goal_is ?_
  rw [← hD, ← hsc]
  clear goal_is
  have nfp : ∀ b ∈ fp, Hc b = none := fun b hb => (fpc b hb).1.1
  generalize hce : compEnvC scope (cellsFrom (sc.heap.objs.size + 1) scope.names (cloFrom X.env.cells scope.names [])) sc.heap.objs.size X.env = ce at Id kg kt ke ⊢
  have loc_c : ce.locals = sc.heap.objs.size := by rw [← hce]; rfl
  generalize hsd : ({ sc with heap := pushCells (sc.heap.push { cls := .type "dict", data := .dict #[] }) scope.names } : Shared) = sd at Id ⊢
  have std : tn 0 sd.heap := T.keep _ _ _ stc fun b _ u z => by rw [← hsd]; exact pushCells_keeps _ _ _ _ (Heap.get?_push_of_some _ z)
  have fpAt : ∀ {σ2 : L2.St} {H2 : Hp} {s2 : Shared}, Inv (X.blk sc Hc scope ce fp) [] σ2 H2 s2 → (∀ b ∈ fp, H2 b = none) → ∀ b ∈ fp, FpOk (X.blk sc Hc scope ce fp) [] H2 b := fun {σ2 H2 s2} I2 hn b hb =>
    ⟨hn b hb, (I2.ok.exf b hb).1, I2.ok.exfs b hb, .inl hb, fun x c z => (I2.ok.exf b hb).2 x c z, fun p hp => absurd (show p ∈ ([] : List (Addr × Obj)) ++ [] from hp) (by simp)⟩
  have loop : codeAny (model X.prog X.w) X.A (.compLoop (.SetComp elt [⟨tg, iter, ifs, 0⟩] scope pos) 0 (.ref it) (.ref D) ce) (compPost (model X.prog X.w) X.A X.xe none (EP X pins σ Q) (.ref D) sc.heap.objs.size) sd := by
    refine PpSet.compLoopS_any (fun n s2 => ∃ i H2, Inv (X.blk sc Hc scope ce fp) [] (wipe σ (own.map (·.2))) H2 s2 ∧ tn i s2.heap ∧ (∀ b ∈ fp, H2 b = none) ∧ W i n H2) ?_ m0 ⟨0, Hc, Id, std, nfp, w0⟩
    rintro n se ⟨i, He, Ie, ste, ne, we⟩
    rcases turn i n He we with ⟨end_, qq⟩ | ⟨go, Nx, hNx, step⟩
    · refine thnF (T.done (X.blk sc Hc scope ce fp) rfl rfl rfl hc i [] se _ He (fun _ _ => False) Ie (fpAt Ie ne) ste end_) fun r sf ⟨hr, If⟩ => ?_
      subst hr
      have Ig : Inv X pins σ He sf := Ic.call' (ch := fp) If.os If.base If.hok If.bare fun b hb => ⟨(fpc b hb).1.2.2.2.1, (fpc b hb).1.2.1, (fpc b hb).1.2.2.2.2.1, (fpc b hb).1.2.2.2.2.2⟩
      have free_l : He ce.locals = none := If.free
      obtain ⟨ml, hml, _⟩ := If.loc
      have hml : sf.heap.Ns ce.locals ml := hml
      rw [loc_c] at free_l hml
      refine ⟨ml, hml, fun hz only => ?_⟩
      obtain ⟨f0, f1, f2, f3, f4, f5⟩ := Ic.fpOk (Nat.le_refl _) free_l
      exact ⟨.ref D, He, Ig.turned (t' := sf.toks) (fun b u hb z => (only.2 b hb).trans z) f0 f1 f3 f4 f5, rfl, qq⟩
    · refine thnF (T.item (X.blk sc Hc scope ce fp) rfl rfl rfl hc i [] se _ He (fun _ _ => False) Ie (fpAt Ie ne) ste go) fun r sf ⟨u, hr, hf⟩ => ?_
      subst hr
      refine thnF hf fun _ sg ⟨x, Hg, Ig, rg, yg, stg, ng⟩ => ?_
      refine thnF (kg.run _ sg _ Hg x u _ (Ig.pinned (fpAt Ig ng) (T.obj _ _ stg)) rg (step x Hg yg)) fun _ sh ⟨σh, Hh, Ih, hwh, qh⟩ => ?_
      refine thnF (kt.run _ sh σh Hh _ Ih qh) fun b sk ⟨Hk, Ik, qk⟩ => ?_
      have fin : ∀ {s2 : Shared} {H2 : Hp}, Inv (X.blk sc Hc scope ce fp) ([] ++ pinsAt fp sg.heap) σh H2 s2 → Nx H2 → ∃ m, m < n ∧ ∃ i H2, Inv (X.blk sc Hc scope ce fp) [] (wipe σ (own.map (·.2))) H2 s2 ∧ tn i s2.heap ∧ (∀ b ∈ fp, H2 b = none) ∧ W i m H2 := fun {s2 H2} I2 nx => by
        obtain ⟨m2, lm, w2⟩ := hNx H2 nx
        have pinned : ∀ b ∈ fp, ∀ o, sg.heap.get? b = some o → s2.heap.get? b = some o ∧ H2 b = none := fun b hb o z =>
          have w := I2.pin (b, o) (List.mem_append_right _ (List.mem_append_right _ (mem_pinsAt hb z)))
          ⟨w.1, w.2.1⟩
        refine ⟨m2, lm, i + 1, H2, I2.unpinned (pins := []) |>.weak (by rw [← hwh, wipe_length]) (fun j v z => by rw [← hwh] at z; exact (wipe_some z).1), T.keep _ _ _ stg fun b hb o z => (pinned b hb o z).1, fun b hb => ?_, w2⟩
        obtain ⟨o, z, _⟩ := T.obj _ _ stg b hb
        exact (pinned b hb o z).2
      cases b with
      | false => rw [if_neg Bool.false_ne_true] at qk ⊢; exact fin Ik qk
      | true =>
        rw [if_pos rfl] at qk ⊢
        refine thnF (ke.run _ sk σh Hk _ Ik qk) fun z sl ⟨yv, Hl, Il, rl, k, S0, n0, ey, hDl, room, nx⟩ => ?_
        subst ey
        obtain ⟨tk, rfl⟩ := rl
        exact addI_ok (X := X.blk sc Hc scope ce fp) Il hDl room fun s2 I2 => fin I2 nx
  exact PpSet.codeAny_compStart_set loop (T.self X.A 0 _ _ _ std loop)
/-- such a set over a walk -/
theorem sc_it {w0 : World} {J : It} {n : Nat} {G : Hp → Prop} {Y : Nat → Hp → V → Hp → Prop} (w : Walk J n G Y) {g : TG} {tt : TT} {te : TE} {vs : List Nat} {σ : L2.St} {H1 : Hp} {D : Addr} {Qd : Hp → Prop} (Pv : Nat → Hp → Prop) (h0 : Pv 0 (upd H1 D (SetO w0 D (fun _ => false) 0))) (hG : ∀ i H, i ≤ n → Pv i H → G H)
    (hs : ∀ i x H H2, i < n → Pv i H → Y i H x H2 → g x (wipe σ vs) H2 fun σ3 H3 => wipe σ3 vs = wipe σ vs ∧ tt σ3 H3 fun b H4 =>
      if b = true then te σ3 H4 fun y H5 => ∃ (k : Int) (S : Int → Bool) (n : Nat), y = .int k ∧ H5 D = some (SetO w0 D S n) ∧ n + 1 < scanBound ∧ Pv (i + 1) (upd H5 D (SetO w0 D (fun j => S j || decide (j = k)) (if S k = true then n else n + 1))) else Pv (i + 1) H4) (hd : ∀ H, Pv n H → Qd H) :
    ∃ W : Nat → Nat → Hp → Prop, (∃ m, W 0 m (upd H1 D (SetO w0 D (fun _ => false) 0))) ∧ ∀ i m H, W i m H →
      (J.stop i H ∧ Qd H) ∨ (J.go i H ∧ ∃ Nx : Hp → Prop, (∀ H2, Nx H2 → ∃ m2, m2 < m ∧ W (i + 1) m2 H2) ∧ ∀ x H2, J.yld i H x H2 → g x (wipe σ vs) H2 fun σ3 H3 => wipe σ3 vs = wipe σ vs ∧ tt σ3 H3 fun b H4 =>
        if b = true then te σ3 H4 fun y H5 => ∃ (k : Int) (S : Int → Bool) (n : Nat), y = .int k ∧ H5 D = some (SetO w0 D S n) ∧ n + 1 < scanBound ∧ Nx (upd H5 D (SetO w0 D (fun j => S j || decide (j = k)) (if S k = true then n else n + 1))) else Nx H4) := by
  refine ⟨fun i m H => m = n - i ∧ i ≤ n ∧ Pv i H, ⟨n, (Nat.sub_zero n).symm, Nat.zero_le _, h0⟩, ?_⟩
  rintro i m H ⟨rfl, hi, p⟩
  rcases Nat.lt_or_eq_of_le hi with lt | rfl
  · exact .inr ⟨w.goes i H lt (hG i H hi p), Pv (i + 1), fun H2 p2 => ⟨n - (i + 1), by omega, rfl, lt, p2⟩, fun x H2 y => hs i x H H2 lt p (w.yields i H x H2 lt (hG i H hi p) y)⟩
  · exact .inl ⟨w.stops H (hG i H hi p), hd H p⟩
end
/-! ### in the layer -/
/-- an item must be an int -/
def intQK (s : Vl) (r : DEnv) : Out (Vl × DEnv) := match s with
  | .d (.int k) => .ok (.d (.int k), r)
  | _ => .bad
def qIntQ (fe : FT) (r : DEnv) : Out (Vl × DEnv) := bind2 (fe r) intQK
theorem intQK_eq (k : Int) (r : DEnv) : intQK (.d (.int k)) r = .ok (.d (.int k), r) := rfl2 rfl
theorem qIntQ_eq (fe : FT) (r : DEnv) : qIntQ fe r = bind2 (fe r) intQK := rfl2 rfl
def scK3 (s : Vl) (r : DEnv) : Out (Vl × DEnv) := match s with
  | .n (.list ys) => opt (intsD ys) fun ns => .ok (.n (.list ((setL ns).map .int)), r)
  | _ => .bad
def scK1 (t : FTg) (tt : FTT) (fe : FT) (own : List Nat) (xs : List PyData) (r : DEnv) : Out (Vl × DEnv) := need (Nat.blt xs.length 4095) (bind2 (lcK1 t tt (qIntQ fe) own xs r) scK3)
def qSc (gi : FTF) (t : FTg) (tt : FTT) (fe : FT) (own : List Nat) (r : DEnv) : Out (Vl × DEnv) := bind2 (gi r) (scK1 t tt fe own)
def scK4 (r : DEnv) (ns : List Int) : Out (Vl × DEnv) := .ok (.n (.list ((setL ns).map .int)), r)
theorem scK3_eq (ys : List PyData) (r : DEnv) : scK3 (.n (.list ys)) r = opt (intsD ys) (scK4 r) := rfl2 rfl
theorem scK4_eq (ns : List Int) (r : DEnv) : scK4 r ns = .ok (.n (.list ((setL ns).map .int)), r) := rfl2 rfl
theorem scK1_eq (t : FTg) (tt : FTT) (fe : FT) (own : List Nat) (xs : List PyData) (r : DEnv) : scK1 t tt fe own xs r = need (Nat.blt xs.length 4095) (bind2 (lcK1 t tt (qIntQ fe) own xs r) scK3) := rfl2 rfl
theorem qSc_eq (gi : FTF) (t : FTg) (tt : FTT) (fe : FT) (own : List Nat) (r : DEnv) : qSc gi t tt fe own r = bind2 (gi r) (scK1 t tt fe own) := rfl2 rfl
theorem blt_t {n : Nat} (h : n < 4095) : Nat.blt n 4095 = true := Nat.ble_eq.mpr h
section
variable {PX : Exn → Prop} {X : Cx} {E : Ent} {K : PySem.W.Frag} {st : L2.St} {H : Hp} {Q : VK} {w0 : World}
theorem intQ_d {fe : FT} {r : DEnv} {P : Vl → DEnv → Prop} (p : ofT PX (qIntQ fe) r P) : ofT PX fe r fun s r' => (∃ k, s = .d (.int k)) ∧ P s r' := by
  refine wp2_mono (wp2_bind2 p) fun s r' q => ?_
  unfold intQK at q
  split at q
  · exact ⟨⟨_, rfl⟩, q⟩
  · exact q.elim
theorem intsD_map' (ns : List Int) : intsD (ns.map PyData.int) = some ns := by
  induction ns with
  | nil => rfl
  | cons n ns ih => rw [List.map_cons, intsD_c, ih]; rfl
theorem sc_main {gi : FTF} {g : TG} {t : FTg} {tt : FTT} {fe : FT} {own : List Nat} (ct : CT K E own g (ofG PX0 t)) (h : tD K E (ofT PX (qSc gi t tt fe own)) st H Q) :
    tScI w0 (tDI K E (ofT PX gi)) g (tDT K E (ofT PX0 tt)) (tD K E (ofT PX0 fe)) own st H (fun v H' => rSortedSetX w0 [v] H' Q) := by
  obtain ⟨F, r, P, R, p, k⟩ := h
  have p : (bind2 (gi r) (scK1 t tt fe own)).wp2 PX P := p
  refine ⟨F, r, _, R, wp2_bind2 p, fun xs r1 F1 H1 J q1 A1 w D nD => ?_⟩
  unfold scK1 at q1
  obtain ⟨hl, q1⟩ := wp2_need q1
  have hl : xs.length < 4095 := Nat.le_of_ble_eq_true hl
  obtain ⟨I, i0, step, fin⟩ := lcL_d (wp2_bind2 q1)
  obtain ⟨G, Y, wk, gg, yy⟩ := w
  have R1 := A1.rel.wiped own
  have e0 : E.H0 D = none := A1.rel.fresh0 nD
  have W1 : Aft K E F1 H1 (wipe st own) (wipeD r1 own) F1 (upd H1 D (SetO w0 D (fun _ => false) 0)) (wipeD r1 own) := R1.newH nD
  refine sc_it (w0 := w0) wk (fun i H' => ∃ (F2 : Hp) (r2 : DEnv) (acc : List Int) (n : Nat), Aft K E F1 H1 (wipe st own) (wipeD r1 own) F2 H' r2 ∧ H' D = some (SetO w0 D (fun j => decide (j ∈ acc)) n) ∧ F2 D = none ∧ ¬ MutA (wipe st own) r2 D ∧ n ≤ acc.length ∧ acc.length ≤ i ∧ I (xs.take i) (acc.map .int) r2)
    ⟨F1, _, [], 0, W1, by rw [upd_same]; simp, A1.rel.sub.free nD, R1.notMut nD, Nat.le_refl _, Nat.le_refl _, by rw [List.take_zero]; exact i0⟩ (fun i H' _ ⟨F2, r2, _, _, A2, _⟩ => gg F2 H' A2.stp.gf A2.rel.sub) ?_ ?_
  · rintro i v H2 H3 hi ⟨F2, r2, acc, n, A2, hD, fD, mD, ha, hb, i2⟩ y
    obtain ⟨x, ex, alt⟩ := yy i F2 H2 v H3 hi A2.stp.gf A2.rel.sub y
    obtain ⟨e1, e2⟩ := split_at ex
    have body := step _ x _ (acc.map .int) r2 e1 i2
    rw [← e2] at body
    have go : ∀ F3, Aft K E F1 H1 (wipe st own) (wipeD r1 own) F3 H3 r2 → F3 D = none → H3 D = some (SetO w0 D (fun j => decide (j ∈ acc)) n) → Rp K F3 v x → g v (wipe st own) H3 fun st2 H4 => wipe st2 own = wipe st own ∧ tDT K E (ofT PX0 tt) st2 H4 fun b H5 =>
        if b = true then tD K E (ofT PX0 fe) st2 H5 fun y H6 => ∃ (kk : Int) (S : Int → Bool) (n : Nat), y = .int kk ∧ H6 D = some (SetO w0 D S n) ∧ n + 1 < scanBound ∧ (∃ (F2 : Hp) (r2 : DEnv) (acc : List Int) (n' : Nat), Aft K E F1 H1 (wipe st own) (wipeD r1 own) F2 (upd H6 D (SetO w0 D (fun j => S j || decide (j = kk)) (if S kk = true then n else n + 1))) r2 ∧
            (upd H6 D (SetO w0 D (fun j => S j || decide (j = kk)) (if S kk = true then n else n + 1))) D = some (SetO w0 D (fun j => decide (j ∈ acc)) n') ∧ F2 D = none ∧ ¬ MutA (wipe st own) r2 D ∧ n' ≤ acc.length ∧ acc.length ≤ i + 1 ∧ I (xs.take (i + 1)) (acc.map .int) r2)
        else ∃ (F2 : Hp) (r2 : DEnv) (acc : List Int) (n : Nat), Aft K E F1 H1 (wipe st own) (wipeD r1 own) F2 H5 r2 ∧ H5 D = some (SetO w0 D (fun j => decide (j ∈ acc)) n) ∧ F2 D = none ∧ ¬ MutA (wipe st own) r2 D ∧ n ≤ acc.length ∧ acc.length ≤ i + 1 ∧ I (xs.take (i + 1)) (acc.map .int) r2 := by
      intro F3 A3 fD3 hD3 ok
      refine ct v (wipe st own) H3 _ F3 r2 _ x A3.rel ok body fun r4 st4 p4 R4 w4 m4 => ⟨w4.trans wipe_idem, F3, r4, _, R4, p4, fun b r5 F5 H5 q5 A5 => ?_⟩
      have mD4 : ¬ MutA st4 r4 D := by rw [m4]; exact mD
      have toW : ∀ {F6 H6 r6}, Aft K E F3 H3 st4 r4 F6 H6 r6 → Aft K E F1 H1 (wipe st own) (wipeD r1 own) F6 H6 (wipeD r6 own) ∧ H6 D = some (SetO w0 D (fun j => decide (j ∈ acc)) n) ∧ F6 D = none ∧ ¬ MutA st4 r6 D ∧ ¬ MutA (wipe st own) (wipeD r6 own) D := by
        intro F6 H6 r6 A6
        have z1 : H6 D = some (SetO w0 D (fun j => decide (j ∈ acc)) n) := A6.stp.keep D _ hD3 mD4
        have z2 : F6 D = none := (A6.stp.nofr D _ hD3 fD3 mD4).fin A6.rel.sub z1 fun _ z => nomatch z
        have ew : wipe st4 own = wipe st own := w4.trans wipe_idem
        have RW : Rel K E F6 H6 (wipe st own) (wipeD r6 own) := by rw [← ew]; exact A6.rel.wiped own
        have mm : ∀ a, MutA (wipe st own) (wipeD r6 own) a → MutA (wipe st own) r2 a := fun a m => by
          rw [← ew] at m
          have m1 := A6.mu a (mutA_wiped m)
          rwa [m4] at m1
        refine ⟨⟨RW, ⟨A3.stp.gf.trans A6.stp.gf, fun a o e m => ?_, fun a o e => ?_, fun a o e nn m => ?_⟩, fun a m => A3.mu a (mm a m)⟩, z1, z2, fun m => mD4 (A6.mu D m), fun m => mD (mm D m)⟩
        · exact A6.stp.keep a o (A3.stp.keep a o e m) fun z => m (A3.mu a (by rwa [m4] at z))
        · obtain ⟨u, q⟩ := A3.stp.ever a o e
          exact A6.stp.ever a u q
        · exact (A3.stp.nofr a o e nn m).then A6.stp.gf fun n' => A6.stp.nofr a o (A3.stp.keep a o e m) n' fun z => m (A3.mu a (by rwa [m4] at z))
      cases b with
      | false =>
        rw [if_neg Bool.false_ne_true] at q5
        show if false = true then _ else _
        rw [if_neg Bool.false_ne_true]
        obtain ⟨z1, z2, z3, _, z5⟩ := toW A5
        exact ⟨F5, _, acc, n, z1, z2, z3, z5, ha, by omega, q5⟩
      | true =>
        rw [if_pos rfl] at q5
        show if true = true then _ else _
        rw [if_pos rfl]
        refine ⟨F5, r5, _, A5.rel, intQ_d q5, fun s r6 u F6 H6 q6 A6 ok6 n6 => ?_⟩
        obtain ⟨⟨kk, ek⟩, q6⟩ := q6
        subst ek
        have ok6 : Rp K F6 u (.int kk) := ok6
        cases ok6
        obtain ⟨y, es, hs, i6⟩ := (show ∃ y, Vl.d (.int kk) = .d y ∧ (acc.map PyData.int).length < sizeLine ∧ I (xs.take i ++ [x]) (acc.map PyData.int ++ [y]) (wipeD r6 own) from by
          have e2' := e2
          simpa [← e2] using q6)
        cases es
        obtain ⟨z1, z2, z3, z4, z5⟩ := toW (A5.trans A6)
        have sb : scanBound = 4096 := rfl
        refine ⟨kk, _, n, rfl, z2, by omega, F6, _, acc ++ [kk], if (decide (kk ∈ acc)) = true then n else n + 1, z1.write e0 nD z3 z5 ⟨_, z2⟩, ?_, z3, z5, ?_, by rw [List.length_append, List.length_singleton]; omega, ?_⟩
        · rw [upd_same]
          congr 2
          funext j
          simp
        · rw [List.length_append, List.length_singleton]
          split <;> omega
        · rw [e2, List.map_append]
          exact i6
    rcases alt with ⟨rfl, ok⟩ | ⟨T, ws, ys, rfl, nT, rfl, rfl, ok⟩
    · exact go F2 A2 fD hD (rpM A2.stp.gf ok)
    · have B := A2.rel.new (o := .tup ws) nT
      have nTD : D ≠ T := ne_of_none hD nT
      exact go _ (A2.trans B) (by rw [upd_ne nTD]; exact fD) (by rw [upd_ne nTD]; exact hD) (.tup upd_same (rpsM (A2.stp.gf.trans B.stp.gf) ok))
  · rintro H' ⟨F2, r2, acc, n, A2, hD, fD, mD, ha, hb, i2⟩
    rw [List.take_length] at i2
    have A3 := A1.trans (A2.unwiped A1.rel)
    have pf := fin (acc.map .int) r2 i2
    have pf : (opt (intsD (acc.map PyData.int)) fun ns => Out.ok (Vl.n (.list ((setL ns).map .int)), backD r1 r2 own)).wp2 PX P := pf
    rw [intsD_map'] at pf
    have pf : P (.n (.list ((setL acc).map .int))) (backD r1 r2 own) := pf
    refine ⟨D, _, n, rfl, hD, by omega, fun ns p m1 m2 m3 n2 => ?_⟩
    have em : ns = setL acc := lt_uniq m1 (setL_lt acc) fun j => by rw [m2, setL_mem]; simp
    subst em
    exact yldL_of A3 pf k p _ n2 (rps_ints _)
theorem qe_sortedSC {k : Nat} {elt tg iter : Expr} {ifs : List Expr} {scope : Scope} {own : List (Str × Nat)} {gi : FTF} {g : TG} {t : FTg} {tt : FTT} {fe : FT} {p pos pos2 : Pos} (hr : Room k X.A) (hc : X.calm = true) (hN : X.N.Nodup) (hgl : Gl X "sorted") (hm : X.mg "sorted" = none)
    (hi : PI X tg iter (tDI X.K E (ofT PX gi))) (ok : BlkOk X.N X.env.scope scope own)
    (ct : CT X.K E (own.map (·.2)) g (ofG PX0 t)) (hg : ∀ (s : Shared) (H : Hp) (C : Addr) (cl : List (Str × Addr)) (fp : List Addr), PG (X.blk s H scope (compEnvC scope cl C X.env) fp) tg g)
    (ht : ∀ (s : Shared) (H : Hp) (C : Addr) (cl : List (Str × Addr)) (fp : List Addr), PTs (X.blk s H scope (compEnvC scope cl C X.env) fp) ifs (tDT X.K E (ofT PX0 tt)))
    (he : ∀ (s : Shared) (H : Hp) (C : Addr) (cl : List (Str × Addr)) (fp : List Addr), FE PX0 E (X.blk s H scope (compEnvC scope cl C X.env) fp) elt fe) (hs : ∀ x, foldedSetIterable iter X.env x = pure x := by intro _; rfl)
    (he1 : starEach [.SetComp elt [⟨tg, iter, ifs, 0⟩] scope pos2] X.env = (false, eval (.SetComp elt [⟨tg, iter, ifs, 0⟩] scope pos2) X.env) :: starEach [] X.env := by rfl) (hpl1 : (backTo pos (starEach [] X.env)).any (·.1) = false := by rfl) :
    FE PX E X (.Call (.Name "sorted" p) [.SetComp elt [⟨tg, iter, ifs, 0⟩] scope pos2] [] pos) (qSc gi t tt fe (own.map (·.2))) :=
  wkE (pe_callB (x := "sorted") (cr_sortedSetX hc (Room.u66 hr)) hgl hm (by decide +kernel) (pa_cons (pe_scI hc hN hi ok hg ht he hs) pa_nil he1) (by decide) (by decide) he1 hpl1) fun st H Q h => sc_main ct h
end
end DL
set_option Elab.async false
set_option linter.all false
set_option autoImplicit false
set_option maxRecDepth 100000
set_option maxHeartbeats 4000000
/-! FLaf: tuple(range(n)), xs[a::b] of a list, d.get(k), xs.index(x), xs.count(x). -/
namespace DL
open PySem PySem.Spec PyProof.Rows L2 Out
section
variable {PX : Exn → Prop} {X : Cx} {E : Ent} {K : PySem.W.Frag} {F H : Hp} {e a b : Expr} {p p2 p3 pos pos2 : Pos} {i : Nat} {st : St} {r : DEnv} {fa fb : FT}
/-! ### tuple(range(n)) -/
def dTr1 (fa : DT) (r : DEnv) (P : Vl → DEnv → Prop) : Prop := fa r fun s r1 => ∃ j, s = .d (.int j) ∧ RgOk 0 j ∧ P (.d (.tuple (rngL 0 (j - 0).toNat))) r1
theorem de_tupR1 {fa : DT} (hc : X.calm = true) (hg : Gl X "tuple") (hm : X.mg "tuple" = none) (hg2 : Gl X "range") (hm2 : X.mg "range" = none) (ha : DE E X a fa)
    (na : starEach [a] X.env = (false, eval a X.env) :: starEach [] X.env := by rfl)
    (ne : starEach [.Call (.Name "range" p2) [a] [] pos2] X.env = (false, eval (.Call (.Name "range" p2) [a] [] pos2) X.env) :: starEach [] X.env := by rfl) :
    DE E X (.Call (.Name "tuple" p) [.Call (.Name "range" p2) [a] [] pos2] [] pos) (dTr1 fa) :=
  wkE (pe_tupRg hc hg hm (prg_1 hg2 hm2 ha na) ne) fun st H Q ⟨F, r, P, R, p, k⟩ => ⟨F, r, _, R, p, fun s r1 v F1 H1 ⟨j, ej, h, q⟩ A1 ok n => by
    subst ej
    cases (show Rp X.K F1 v (.int j) from ok)
    exact ⟨j, rfl, h, fun l hl => (yld_of A1 q k).2 _ _ _ hl (.tup upd_same (rpsM (same_upd (A1.rel.sub.free hl)) (rps_rg 0 j)))⟩⟩
def tr1K (s : Vl) (r : DEnv) : Out (Vl × DEnv) := match s with
  | .d (.int j) => need (lrB 0 j) (.ok (.d (.tuple (rngL 0 j.toNat)), r))
  | _ => .bad
def qTr1 (fa : FT) (r : DEnv) : Out (Vl × DEnv) := bind2 (fa r) tr1K
theorem tr1K_eq (j : Int) (r : DEnv) : tr1K (.d (.int j)) r = need (lrB 0 j) (.ok (.d (.tuple (rngL 0 j.toNat)), r)) := rfl2 rfl
theorem qTr1_eq (fa : FT) (r : DEnv) : qTr1 fa r = bind2 (fa r) tr1K := rfl2 rfl
theorem qe_tupR1 (hc : X.calm = true) (hg : Gl X "tuple") (hm : X.mg "tuple" = none) (hg2 : Gl X "range") (hm2 : X.mg "range" = none) (ha : FE PX E X a fa)
    (na : starEach [a] X.env = (false, eval a X.env) :: starEach [] X.env := by rfl)
    (ne : starEach [.Call (.Name "range" p2) [a] [] pos2] X.env = (false, eval (.Call (.Name "range" p2) [a] [] pos2) X.env) :: starEach [] X.env := by rfl) :
    FE PX E X (.Call (.Name "tuple" p) [.Call (.Name "range" p2) [a] [] pos2] [] pos) (qTr1 fa) := fe_of (de_tupR1 hc hg hm hg2 hm2 ha na ne) fun r P p => by
  unfold ofT qTr1 at p
  refine wp2_mono (wp2_bind2 p) fun s r1 q => ?_
  unfold tr1K at q
  split at q
  · obtain ⟨hh, q⟩ := wp2_need q
    unfold lrB at hh
    have hh := of_decide_eq_true hh
    refine ⟨_, rfl, hh, ?_⟩
    rw [Int.sub_zero]
    exact q
  · exact q.elim
/-! ### xs[a::b], xs a list -/
def stpI (n : Nat) (l c : Option Int) : List Nat := sliceRange (sliceBounds l none c n).1 (sliceBounds l none c n).2.1 (sliceBounds l none c n).2.2
theorem rps_fm : ∀ (is : List Nat) {vs : List V} {ds : List PyData}, Rps K F vs ds → Rps K F (is.filterMap (vs[·]?)) (is.filterMap (ds[·]?))
  | [], _, _, _ => .nil
  | j :: is, vs, ds, h => by
    rw [List.filterMap_cons, List.filterMap_cons]
    cases e : vs[j]? with
    | none =>
      have : ds[j]? = none := by
        rw [List.getElem?_eq_none_iff] at e ⊢
        have := rps_len h
        omega
      rw [this]
      exact rps_fm is h
    | some v =>
      obtain ⟨x, ex, rx⟩ := rps_at' h e
      rw [ex]
      exact .cons rx (rps_fm is h)
theorem vals_fm : ∀ (is : List Nat) {vs : List V} {us : List Value}, Vals vs us → Vals (is.filterMap (vs[·]?)) (is.filterMap (us[·]?))
  | [], _, _, _ => .nil
  | j :: is, vs, us, h => by
    rw [List.filterMap_cons, List.filterMap_cons]
    cases e : vs[j]? with
    | none =>
      have : us[j]? = none := by
        rw [List.getElem?_eq_none_iff] at e ⊢
        have := h.length
        omega
      rw [this]
      exact vals_fm is h
    | some v =>
      obtain ⟨u, eu, ru⟩ := h.get e
      rw [eu]
      exact .cons ru (vals_fm is h)
def tStp (K : PySem.W.Frag) (te : TE) (tl ts : TO) : TE := fun σ H Q => te σ H fun x H1 => tl σ H1 fun l H2 => ts σ H2 fun c H3 => ∃ a xs, x = .ref a ∧ SqL K H3 a xs ∧ c ≠ some 0 ∧ ((stpI xs.length l c).filterMap (xs[·]?)).length ≤ sizeLine ∧ ∀ p, H3 p = none → Q (.ref p) (upd H3 p (.lst ((stpI xs.length l c).filterMap (xs[·]?))))
theorem pe_stp {lo : Option Expr} {te : TE} {tl ts : TO} (he : PE X e te) (hl : PO X lo tl) (hs : PO X (some b) ts) : PE X (.Subscript e (.Slice lo none (some b) p2) pos) (tStp X.K te tl ts) where
  run pins s σ H Q I h := by
    refine Subscript_ (thn (he.run pins s σ H _ I h) ?_)
    rintro v s1 ⟨x, H1, I1, r1, q1⟩
    refine wpAny_Slice (thn (hl.run pins s1 σ H1 _ I1 q1) ?_)
    rintro vl s2 ⟨l, H2, I2, pl, q2⟩
    refine thn (po_none.run pins s2 σ H2 (fun o G => o = none ∧ G = H2) I2 ⟨rfl, rfl⟩) ?_
    rintro vu s3 ⟨u, H3, I3, pu, rfl, rfl⟩
    refine thn (hs.run pins s3 σ H3 _ I3 q2) ?_
    rintro vs s4 ⟨c, H4, I4, ps, a, xs, rfl, hx, c0, lz, q⟩
    cases r1
    have J : Inv X pins σ H4 { s4 with heap := s4.heap.push { cls := .type "slice", data := .fields #[vl, vu, vs] } } := I4.kept (t' := s4.toks) fun b ob q => Heap.get?_push_of_some _ q
    obtain ⟨us, rv, ht, hz⟩ := J.list hx
    have hn := rv.length
    refine tail_any (ops := [.ref a, .ref s4.heap.objs.size]) ht.isList.typeIs (PySem.slot_list_getitem.lookup) ?_ (by with_unfolding_all rfl)
    refine wpAny_getItem_list_slice ht.isList (Heap.IsSliceOf.new _ vl vu vs) pl pu ps c0 ?_ (by rw [List.size_toArray]; omega)
    refine ⟨.ref _, _, J.laid (t' := s4.toks) (o := .lst ((stpI xs.length l c).filterMap (xs[·]?))) (fun b ob q => Heap.get?_push_of_some _ q) (Nat.le_refl _) ⟨lz, _, 0, vals_fm _ rv, ?_⟩, rfl, q _ (J.hok.fresh (Nat.le_refl _))⟩
    refine (Heap.get?_push_size _ rfl).trans ?_
    unfold slicePick stpI
    rw [List.size_toArray, ← hn]
    simp
def stpD (xs : List PyData) (l c : Option Int) : List PyData := (stpI xs.length l c).filterMap (xs[·]?)
def dStp (fa : DT) (lo st : DTO) (r : DEnv) (P : Vl → DEnv → Prop) : Prop := fa r fun s r1 => lo r1 fun l r2 => st r2 fun c r3 => ∃ xs, rd r3 s = some (.list xs) ∧ c ≠ some 0 ∧ (stpD xs l c).length ≤ sizeLine ∧ P (.n (.list (stpD xs l c))) r3
theorem de_stp {lo : Option Expr} {fa : DT} {fl fh : DTO} (ha : DE E X a fa) (hl : DO E X lo fl) (hh : DO E X (some b) fh) : DE E X (.Subscript a (.Slice lo none (some b) p2) pos) (dStp fa fl fh) :=
  wkE (pe_stp ha hl hh) fun st H Q ⟨F, r, P, R, p, k⟩ => ⟨F, r, _, R, p, fun s r1 v F1 H1 q1 A1 ok1 n1 => ⟨F1, r1, _, A1.rel, q1, fun l r2 F2 H2 q2 A2 => ⟨F2, r2, _, A2.rel, q2, fun c r3 F3 H3 q3 A3 => by
    obtain ⟨xs, e1, c0, lz, q⟩ := q3
    obtain ⟨q', vs, rfl, g1, g2⟩ := (A3.rel.read ((ok1.aft A2).aft A3) e1).seq A3.rel.sub
    have g3 := rps_fm (stpI vs.length l c) g2
    refine ⟨q', vs, rfl, g1, c0, ?_, fun p' n => yldL_of ((A1.trans A2).trans A3) q k p' _ n ?_⟩
    · rw [rps_len g3, rps_len g2]
      exact lz
    · unfold stpD
      rw [rps_len g2] at g3 ⊢
      exact g3⟩⟩⟩
def stpK5 (l c : Option Int) (r : DEnv) (xs : List PyData) : Out (Vl × DEnv) := need (!decide (c = some 0) && lenOk (stpD xs l c).length) (.ok (.n (.list (stpD xs l c)), r))
def stpK4 (l c : Option Int) (r : DEnv) (x : PyData) : Out (Vl × DEnv) := match x with
  | .list xs => stpK5 l c r xs
  | _ => .bad
def stpK3 (s : Vl) (l : Option Int) (c : Option Int) (r : DEnv) : Out (Vl × DEnv) := opt (rd r s) (stpK4 l c r)
def stpK2 (s : Vl) (hi : FTO) (l : Option Int) (r : DEnv) : Out (Vl × DEnv) := bind2 (hi r) (stpK3 s l)
def stpK1 (lo hi : FTO) (s : Vl) (r : DEnv) : Out (Vl × DEnv) := bind2 (lo r) (stpK2 s hi)
def qStp (fa : FT) (lo hi : FTO) (r : DEnv) : Out (Vl × DEnv) := bind2 (fa r) (stpK1 lo hi)
theorem stpK5_eq (l c : Option Int) (r : DEnv) (xs : List PyData) : stpK5 l c r xs = need (!decide (c = some 0) && lenOk (stpD xs l c).length) (.ok (.n (.list (stpD xs l c)), r)) := rfl2 rfl
theorem stpK4_l (l c : Option Int) (r : DEnv) (xs : List PyData) : stpK4 l c r (.list xs) = stpK5 l c r xs := rfl2 rfl
theorem stpK3_eq (s : Vl) (l c : Option Int) (r : DEnv) : stpK3 s l c r = opt (rd r s) (stpK4 l c r) := rfl2 rfl
theorem stpK2_eq (s : Vl) (hi : FTO) (l : Option Int) (r : DEnv) : stpK2 s hi l r = bind2 (hi r) (stpK3 s l) := rfl2 rfl
theorem stpK1_eq (lo hi : FTO) (s : Vl) (r : DEnv) : stpK1 lo hi s r = bind2 (lo r) (stpK2 s hi) := rfl2 rfl
theorem qStp_eq (fa : FT) (lo hi : FTO) (r : DEnv) : qStp fa lo hi r = bind2 (fa r) (stpK1 lo hi) := rfl2 rfl
theorem qe_stp {lo : Option Expr} {fl fh : FTO} (ha : FE PX E X a fa) (hl : FO PX E X lo fl) (hh : FO PX E X (some b) fh) : FE PX E X (.Subscript a (.Slice lo none (some b) p2) pos) (qStp fa fl fh) := fe_of (de_stp ha hl hh) fun r P p => by
  unfold ofT qStp at p
  refine wp2_mono (wp2_bind2 p) fun s r1 q => ?_
  unfold stpK1 at q
  refine wp2_mono (wp2_bind2 q) fun l r2 q => ?_
  unfold stpK2 at q
  refine wp2_mono (wp2_bind2 q) fun c r3 q => ?_
  unfold stpK3 at q
  obtain ⟨x, ex, q⟩ := wp2_opt q
  unfold stpK4 at q
  split at q
  · rename_i xs
    unfold stpK5 at q
    obtain ⟨hh, q⟩ := wp2_need q
    rw [Bool.and_eq_true] at hh
    refine ⟨xs, ex, by simpa using hh.1, ?_, q⟩
    have := lenOk_iff.mp hh.2
    have := sizeLine_eq
    omega
  · exact q.elim
/-! ### d.get(k), d a name -/
theorem any_isD {ds : List (PyData × PyData)} {x : PyData} (R : Rel K E F H st r) (e1 : dicA x r[i]? = some ds) : ∃ q, st[i]? = some (some (.ref q)) ∧ IsD H q := by
  have own : ∀ {t : Sl}, r[i]? = some (some t) → Sl.mu t = true → t.it = .dict ds → ∃ q, st[i]? = some (some (.ref q)) ∧ IsD H q := fun e m it => by
    obtain ⟨q', e2, z⟩ := R.mu_at e m
    rw [it] at z
    obtain ⟨f1, ⟨kvs, h1, r1⟩ | ⟨kvs, h1, r1⟩⟩ := (show F q' = none ∧ ((∃ kvs, H q' = some (.dK kvs) ∧ Rpk K F (dicK kvs) ds) ∨ ∃ kvs, H q' = some (.dT kvs) ∧ Rpk K F (dicT kvs) ds) from z)
    · exact ⟨q', e2, .inl ⟨kvs, .inl h1⟩⟩
    · exact ⟨q', e2, .inr ⟨kvs, .inl h1⟩⟩
  unfold dicA at e1
  split at e1
  · rename_i q
    cases e1
    exact own q rfl rfl
  · rename_i q
    cases e1
    exact own q rfl rfl
  · rename_i ds' q
    obtain ⟨h1, h2⟩ := onee_some e1
    cases h2
    rw [Bool.and_eq_true] at h1
    obtain ⟨v, ev, rv⟩ := R.dat i _ q
    have g : Rdv K F H v (.dict ds) := .inl rv
    rcases rdv_dict R.sub g with ⟨a, kvs, ev', hk, r1⟩ | ⟨a, kvs, ev', hk, r1⟩ | ⟨n, e⟩
    · subst ev'
      exact ⟨a, ev, .inl ⟨kvs, hk⟩⟩
    · subst ev'
      exact ⟨a, ev, .inr ⟨kvs, hk⟩⟩
    · subst e
      have nf : fakD (.dict [(.none, .str n)]) = false := by simpa using h1.2
      cases nf
  · cases e1
def getV (ds : List (PyData × PyData)) (x : PyData) : PyData := (dGet ds x).getD .none
theorem optRp_getD {o : Option V} {z : Option PyData} (h : OptRp K F o z) : Rp K F (o.getD .non) (z.getD .none) := by
  cases o with
  | none =>
    cases z with
    | none => exact .non
    | some z => exact h.elim
  | some v =>
    cases z with
    | none => exact h.elim
    | some z => exact h
def gtK3 (r : DEnv) (x : PyData) (ds : List (PyData × PyData)) : Out (Vl × DEnv) := need (keyB x && kindB ds x) (.ok (.d (getV ds x), r))
def gtK2 (i : Nat) (r : DEnv) (x : PyData) : Out (Vl × DEnv) := opt (dicA x r[i]?) (gtK3 r x)
def gtK1 (i : Nat) (s : Vl) (r : DEnv) : Out (Vl × DEnv) := opt (rd r s) (gtK2 i r)
def gtK0 (i : Nat) (fa : FT) (r : DEnv) (_ : List (PyData × PyData)) : Out (Vl × DEnv) := bind2 (fa r) (gtK1 i)
def qGet (i : Nat) (fa : FT) (r : DEnv) : Out (Vl × DEnv) := opt (dicA .none r[i]?) (gtK0 i fa r)
theorem gtK3_eq (r : DEnv) (x : PyData) (ds : List (PyData × PyData)) : gtK3 r x ds = need (keyB x && kindB ds x) (.ok (.d (getV ds x), r)) := rfl2 rfl
theorem gtK2_eq (i : Nat) (r : DEnv) (x : PyData) : gtK2 i r x = opt (dicA x r[i]?) (gtK3 r x) := rfl2 rfl
theorem gtK1_eq (i : Nat) (s : Vl) (r : DEnv) : gtK1 i s r = opt (rd r s) (gtK2 i r) := rfl2 rfl
theorem gtK0_eq (i : Nat) (fa : FT) (r : DEnv) (ds : List (PyData × PyData)) : gtK0 i fa r ds = bind2 (fa r) (gtK1 i) := rfl2 rfl
theorem qGet_eq (i : Nat) (fa : FT) (r : DEnv) : qGet i fa r = opt (dicA .none r[i]?) (gtK0 i fa r) := rfl2 rfl
theorem qe_get {o : Expr} {apos cpos : Pos} (hu : X.A.units + 66 < cLine) (ho : PE X o (tVar i)) (ha : FE PX E X a fa) (m : M1 X o "get" apos a cpos := by exact ⟨rfl, rfl, rfl, rfl⟩) : FE PX E X (.Call (.Attribute o "get" apos) [a] [] cpos) (qGet i fa) :=
  wkE (pe_dget1 (by omega) ho (pe_swp ha) m) fun st H Q ⟨F, r, P, R, p, kk⟩ => by
    unfold ofT qGet at p
    obtain ⟨ds0, e0, p⟩ := wp2_opt p
    obtain ⟨q0, v0, d0⟩ := any_isD R e0
    unfold gtK0 at p
    refine ⟨_, v0, q0, rfl, d0, F, r, _, R, wp2_bind2 p, fun s r1 v F1 H1 q A ok n => ?_⟩
    unfold gtK1 at q
    obtain ⟨x, ex, q⟩ := wp2_opt q
    unfold gtK2 at q
    obtain ⟨ds, ed, q⟩ := wp2_opt q
    unfold gtK3 at q
    obtain ⟨hh, q⟩ := wp2_need q
    rw [Bool.and_eq_true] at hh
    obtain ⟨a', ea, sw⟩ := any_get A.rel ed (rdv_key (A.rel.read ok ex) hh.1) hh.2
    rw [v0] at ea
    cases ea
    have fin : ∀ H2, (Aft X.K E F1 H1 st r1 F1 H2 r1 ∧ ∃ o, DGet H2 q0 v o ∧ OptRp X.K F1 o (dGet ds x)) → ∃ o, DGet H2 q0 v o ∧ Q (o.getD .non) H2 := fun H2 ⟨B, o, g, ro⟩ =>
      ⟨o, g, kk _ _ _ _ _ q (A.trans B) (optRp_getD ro) trivial⟩
    rcases sw with z | ⟨d, ⟨e1, z⟩ | ⟨e1, z⟩⟩
    · exact .inl (fin _ z)
    · exact .inr ⟨d, .inl ⟨e1, fin _ z⟩⟩
    · exact .inr ⟨d, .inr ⟨e1, fin _ z⟩⟩
/-! ### xs.index(x), xs a list -/
def dIdx (fa : DT) (ga : DTF) (r : DEnv) (P : Vl → DEnv → Prop) : Prop := fa r fun s r1 => (∃ xs, rd r1 s = some (.list xs)) ∧ ga r1 fun ys r2 => ∃ y ds j, ys = [y] ∧ rd r2 s = some (.list ds) ∧ okE y = true ∧ okE (.list ds) = true ∧ ds.findIdx? (fun z => PyData.eqv z y) = some j ∧ P (.d (.int (j : Nat))) r2
theorem de_idx {fa : DT} {ga : DTF} (h : PE X e (tBM X.K "list" (rIndexD X.K) (tD X.K E fa) (tDF X.K E ga))) : DE E X e (dIdx fa ga) :=
  wkE h fun st H Q ⟨F, r, P, R, p, kk⟩ => ⟨F, r, _, R, p, fun s r1 v F1 H1 ⟨⟨xs, e1⟩, q1⟩ A1 ok1 n1 => by
    obtain ⟨q', vs, rfl, g1, _⟩ := (A1.rel.read ok1 e1).seq A1.rel.sub
    refine ⟨.inl ⟨rfl, _, g1⟩, F1, r1, _, A1.rel, q1, ?_⟩
    rintro ys r2 ws F2 H2 ⟨y, ds, j, rfl, e2, k1, k2, hj, q2⟩ A2 ok2
    obtain ⟨m1, s1⟩ := okE_iff.mp k1
    obtain ⟨m2, s2⟩ := okE_iff.mp k2
    cases ok2 with
    | cons o1 t =>
      cases t
      obtain ⟨hj1, hj2, hj3⟩ := List.findIdx?_eq_some_iff_getElem.mp hj
      refine ⟨q', _, y, ds, j, _, rfl, rfl, (A2.rel.read (ok1.aft A2) e2).dp A2.rel.sub m2, toDp A2.rel.sub o1 m1, s2, s1, List.getElem?_eq_getElem hj1, hj2, fun m z hm hz => ?_, kk _ _ _ _ _ q2 (A1.trans A2) (.int _) trivial⟩
      obtain ⟨l, rfl⟩ := List.getElem?_eq_some_iff.mp hz
      simpa using hj3 m hm⟩
theorem mt_idxD (hu : X.A.units + 66 < cLine) : MtR X "list.index" (rIndexD X.K) := mt_indexD (by omega)
def idxF (ds : List PyData) (y : PyData) : Option Nat := ds.findIdx? fun z => PyData.eqv z y
def idK5 (r : DEnv) (j : Nat) : Out (Vl × DEnv) := .ok (.d (.int (j : Nat)), r)
def idK4 (y : PyData) (r : DEnv) (x : PyData) : Out (Vl × DEnv) := match x with
  | .list ds => need (okE y && okE (.list ds)) (opt (idxF ds y) (idK5 r))
  | _ => .bad
def idK3 (s : Vl) (ys : List PyData) (r : DEnv) : Out (Vl × DEnv) := match ys with
  | [y] => opt (rd r s) (idK4 y r)
  | _ => .bad
def isLstD : PyData → Bool
  | .list _ => true
  | _ => false
def idK2 (s : Vl) (ga : FTF) (r : DEnv) (x : PyData) : Out (Vl × DEnv) := need (isLstD x) (bind2 (ga r) (idK3 s))
def idK1 (ga : FTF) (s : Vl) (r : DEnv) : Out (Vl × DEnv) := opt (rd r s) (idK2 s ga r)
def qIdx (fa : FT) (ga : FTF) (r : DEnv) : Out (Vl × DEnv) := bind2 (fa r) (idK1 ga)
theorem idK5_eq (r : DEnv) (j : Nat) : idK5 r j = .ok (.d (.int (j : Nat)), r) := rfl2 rfl
theorem idK4_l (y : PyData) (r : DEnv) (ds : List PyData) : idK4 y r (.list ds) = need (okE y && okE (.list ds)) (opt (idxF ds y) (idK5 r)) := rfl2 rfl
theorem idK3_c (s : Vl) (y : PyData) (r : DEnv) : idK3 s [y] r = opt (rd r s) (idK4 y r) := rfl2 rfl
theorem isLstD_l (ds : List PyData) : isLstD (.list ds) = true := rfl2 rfl
theorem idK2_eq (s : Vl) (ga : FTF) (r : DEnv) (x : PyData) : idK2 s ga r x = need (isLstD x) (bind2 (ga r) (idK3 s)) := rfl2 rfl
theorem idK1_eq (ga : FTF) (s : Vl) (r : DEnv) : idK1 ga s r = opt (rd r s) (idK2 s ga r) := rfl2 rfl
theorem qIdx_eq (fa : FT) (ga : FTF) (r : DEnv) : qIdx fa ga r = bind2 (fa r) (idK1 ga) := rfl2 rfl
theorem qe_idx {ga : FTF} (h : PE X e (tBM X.K "list" (rIndexD X.K) (tD X.K E (ofT PX fa)) (tDF X.K E (ofT PX ga)))) : FE PX E X e (qIdx fa ga) := fe_of (de_idx h) fun r P p => by
  unfold ofT qIdx at p
  refine wp2_mono (wp2_bind2 p) fun s r1 q => ?_
  unfold idK1 at q
  obtain ⟨x, ex, q⟩ := wp2_opt q
  unfold idK2 at q
  obtain ⟨hl, q⟩ := wp2_need q
  cases x with
  | list xs =>
    refine ⟨⟨xs, ex⟩, wp2_mono (wp2_bind2 q) fun ys r2 q => ?_⟩
    unfold idK3 at q
    split at q
    · rename_i y
      obtain ⟨x, ex, q⟩ := wp2_opt q
      unfold idK4 at q
      split at q
      · rename_i ds
        obtain ⟨hh, q⟩ := wp2_need q
        obtain ⟨j, ej, q⟩ := wp2_opt q
        rw [Bool.and_eq_true] at hh
        exact ⟨y, ds, j, rfl, ex, hh.1, hh.2, ej, q⟩
      · exact q.elim
    · exact q.elim
  | _ => cases hl
/-! ### xs.count(x), xs a list -/
def rCntD (K : PySem.W.Frag) : V → List V → Hp → VK → Prop := fun x xs H Q => ∃ (q : Addr) (y : V) (d : PyData) (ds : List PyData), x = .ref q ∧ xs = [y] ∧ Dp K H (.ref q) (.list ds) ∧ Dp K H y d ∧ SeqAt.shaped (.list ds) = true ∧ SeqAt.shaped d = true ∧ Q (.int (ds.countP (fun z => PyData.eqv z d) : Nat)) H
theorem mt_cntD (hu : X.A.units + 66 < cLine) : MtR X "list.count" (rCntD X.K) := by
  rintro pins s σ H x xs v us Q I rx rv ⟨q', y, d, ds, rfl, rfl, hl, hy, sl, sd, q⟩
  cases rx
  obtain ⟨u, rfl, ru⟩ := rv.one
  obtain ⟨bs, r1⟩ := Dp.reads I d y u hy ru
  have lay : PyData.canLayAll0 ds = true := SeqAt.canLay_of_shaped sl
  have room : X.A.units + 1 + min (PyData.depthAll ds) d.depth < cLine := room_in_shaped sd (by omega)
  cases hl with
  | lst hs ha =>
    obtain ⟨its, rv, ⟨⟨cls, dd, data, slo⟩, n, ho, hc, hdn, hdt⟩, _⟩ := I.list hs
    simp only at hc hdt
    subst hc hdt
    obtain ⟨as, h4⟩ := Dp.readsAll I ds _ its ha rv
    have em := SeqAt.readsAll_map ds its as lay h4
    refine call_meets PySem.F.slot_list_count ⟨_, ho, rfl⟩ PySem.F.entry_list_count (PySem.F.args_list_count_2 _ _) (SeqAt.list_countAt q' its.toArray n dd slo u (fun z => PyData.eqv (SeqAt.readOf s.heap z) d)) ⟨ho, SeqAt.items_eqAt (vs := its.toArray) h4 r1 lay (SeqAt.canLay_of_shaped sd) room, ?_⟩
    refine ⟨.int (ds.countP (fun z => PyData.eqv z d) : Nat), H, I.tok _, ⟨s.toks, ?_⟩, q⟩
    rw [← em, List.countP_map]
    rfl
def dCnt (fa : DT) (ga : DTF) (r : DEnv) (P : Vl → DEnv → Prop) : Prop := fa r fun s r1 => (∃ xs, rd r1 s = some (.list xs)) ∧ ga r1 fun ys r2 => ∃ y ds, ys = [y] ∧ rd r2 s = some (.list ds) ∧ okE y = true ∧ okE (.list ds) = true ∧ P (.d (.int (ds.countP (fun z => PyData.eqv z y) : Nat))) r2
theorem de_cnt {fa : DT} {ga : DTF} (h : PE X e (tBM X.K "list" (rCntD X.K) (tD X.K E fa) (tDF X.K E ga))) : DE E X e (dCnt fa ga) :=
  wkE h fun st H Q ⟨F, r, P, R, p, kk⟩ => ⟨F, r, _, R, p, fun s r1 v F1 H1 ⟨⟨xs, e1⟩, q1⟩ A1 ok1 n1 => by
    obtain ⟨q', vs, rfl, g1, _⟩ := (A1.rel.read ok1 e1).seq A1.rel.sub
    refine ⟨.inl ⟨rfl, _, g1⟩, F1, r1, _, A1.rel, q1, ?_⟩
    rintro ys r2 ws F2 H2 ⟨y, ds, rfl, e2, k1, k2, q2⟩ A2 ok2
    obtain ⟨m1, s1⟩ := okE_iff.mp k1
    obtain ⟨m2, s2⟩ := okE_iff.mp k2
    cases ok2 with
    | cons o1 t =>
      cases t
      exact ⟨q', _, y, ds, rfl, rfl, (A2.rel.read (ok1.aft A2) e2).dp A2.rel.sub m2, toDp A2.rel.sub o1 m1, s2, s1, kk _ _ _ _ _ q2 (A1.trans A2) (.int _) trivial⟩⟩
def cntF (ds : List PyData) (y : PyData) : Nat := ds.countP fun z => PyData.eqv z y
def cnK4 (y : PyData) (r : DEnv) (x : PyData) : Out (Vl × DEnv) := match x with
  | .list ds => need (okE y && okE (.list ds)) (.ok (.d (.int (cntF ds y : Nat)), r))
  | _ => .bad
def cnK3 (s : Vl) (ys : List PyData) (r : DEnv) : Out (Vl × DEnv) := match ys with
  | [y] => opt (rd r s) (cnK4 y r)
  | _ => .bad
def cnK2 (s : Vl) (ga : FTF) (r : DEnv) (x : PyData) : Out (Vl × DEnv) := need (isLstD x) (bind2 (ga r) (cnK3 s))
def cnK1 (ga : FTF) (s : Vl) (r : DEnv) : Out (Vl × DEnv) := opt (rd r s) (cnK2 s ga r)
def qCnt (fa : FT) (ga : FTF) (r : DEnv) : Out (Vl × DEnv) := bind2 (fa r) (cnK1 ga)
theorem cnK4_l (y : PyData) (r : DEnv) (ds : List PyData) : cnK4 y r (.list ds) = need (okE y && okE (.list ds)) (.ok (.d (.int (cntF ds y : Nat)), r)) := rfl2 rfl
theorem cnK3_c (s : Vl) (y : PyData) (r : DEnv) : cnK3 s [y] r = opt (rd r s) (cnK4 y r) := rfl2 rfl
theorem cnK2_eq (s : Vl) (ga : FTF) (r : DEnv) (x : PyData) : cnK2 s ga r x = need (isLstD x) (bind2 (ga r) (cnK3 s)) := rfl2 rfl
theorem cnK1_eq (ga : FTF) (s : Vl) (r : DEnv) : cnK1 ga s r = opt (rd r s) (cnK2 s ga r) := rfl2 rfl
theorem qCnt_eq (fa : FT) (ga : FTF) (r : DEnv) : qCnt fa ga r = bind2 (fa r) (cnK1 ga) := rfl2 rfl
theorem qe_cnt {ga : FTF} (h : PE X e (tBM X.K "list" (rCntD X.K) (tD X.K E (ofT PX fa)) (tDF X.K E (ofT PX ga)))) : FE PX E X e (qCnt fa ga) := fe_of (de_cnt h) fun r P p => by
  unfold ofT qCnt at p
  refine wp2_mono (wp2_bind2 p) fun s r1 q => ?_
  unfold cnK1 at q
  obtain ⟨x, ex, q⟩ := wp2_opt q
  unfold cnK2 at q
  obtain ⟨hl, q⟩ := wp2_need q
  cases x with
  | list xs =>
    refine ⟨⟨xs, ex⟩, wp2_mono (wp2_bind2 q) fun ys r2 q => ?_⟩
    unfold cnK3 at q
    split at q
    · rename_i y
      obtain ⟨x, ex, q⟩ := wp2_opt q
      unfold cnK4 at q
      split at q
      · rename_i ds
        obtain ⟨hh, q⟩ := wp2_need q
        rw [Bool.and_eq_true] at hh
        exact ⟨y, ds, rfl, ex, hh.1, hh.2, q⟩
      · exact q.elim
    · exact q.elim
  | _ => cases hl
end
end DL
set_option Elab.async false
set_option linter.all false
set_option autoImplicit false
set_option maxRecDepth 100000
set_option maxHeartbeats 4000000
/-! FLag: list(zip(a, b)). -/
namespace DL
open PySem PySem.Spec PyProof.Rows L2 Out
section
variable {PX : Exn → Prop} {X : Cx} {E : Ent} {K : PySem.W.Frag} {F H : Hp} {e a b : Expr} {p p2 pos pos2 : Pos} {st : St} {r : DEnv} {ga : FTF}
theorem aft_putZ : ∀ (ts : List Addr) (xs ys : List V) (ds es : List PyData) {F H : Hp}, Rel K E F H st r → (∀ t ∈ ts, H t = none) → ts.Nodup → ts.length = (xs.zip ys).length → Rps K F xs ds → Rps K F ys es →
    ∃ F2, Aft K E F H st r F2 (putZ H ts (xs.zip ys)) r ∧ Rps K F2 (ts.map V.ref) (zipD ds es)
  | [], [], _, _, _, F, H, R, _, _, _, h1, _ => by
    cases h1
    exact ⟨F, .refl R, .nil⟩
  | [], _ :: _, [], _, _, F, H, R, _, _, _, h1, h2 => by
    cases h1
    cases h2
    exact ⟨F, .refl R, .nil⟩
  | [], _ :: _, _ :: _, _, _, _, _, _, _, _, hl, _, _ => by cases hl
  | _ :: _, [], _, _, _, _, _, _, _, _, hl, _, _ => by cases hl
  | _ :: _, _ :: _, [], _, _, _, _, _, _, _, hl, _, _ => by cases hl
  | t :: ts, x :: xs, y :: ys, _, _, F, H, R, nw, nd, hl, .cons hx tx, .cons hy ty => by
    have nt := nw t List.mem_cons_self
    obtain ⟨n1, n2⟩ := List.nodup_cons.mp nd
    have A := R.new (o := .tup [x, y]) nt
    have m : ∀ {v : V} {d : PyData}, Rp K F v d → Rp K (upd F t (.tup [x, y])) v d := fun h => rpM A.stp.gf h
    obtain ⟨F2, A2, rp⟩ := aft_putZ ts xs ys _ _ A.rel (fun u hu => by
      have ne : u ≠ t := fun e => n1 (by rw [← e]; exact hu)
      rw [upd_ne ne]
      exact nw u (List.mem_cons_of_mem _ hu)) n2 (by simpa using hl) (rpsM A.stp.gf tx) (rpsM A.stp.gf ty)
    refine ⟨F2, A.trans A2, .cons (.tup (A2.stp.gf _ _ upd_same) (.cons (rpM A2.stp.gf (m hx)) (.cons (rpM A2.stp.gf (m hy)) .nil))) rp⟩
def lzK (xs : List PyData) (r : DEnv) : Out (Vl × DEnv) := match xs with
  | [.list xs, .list ys] => .ok (.n (.list (zipD xs ys)), r)
  | _ => .bad
def qLz (ga : FTF) (r : DEnv) : Out (Vl × DEnv) := bind2 (ga r) lzK
theorem lzK_l (xs ys : List PyData) (r : DEnv) : lzK [.list xs, .list ys] r = .ok (.n (.list (zipD xs ys)), r) := rfl2 rfl
theorem qLz_eq (ga : FTF) (r : DEnv) : qLz ga r = bind2 (ga r) lzK := rfl2 rfl
theorem qe_listZip (hc : X.calm = true) (hg : Gl X "list") (hm : X.mg "list" = none) (hg2 : Gl X "zip") (hm2 : X.mg "zip" = none) (h : FF PX E X [a, b] ga)
    (na : starEach [.Call (.Name "zip" p2) [a, b] [] pos2] X.env = (false, eval (.Call (.Name "zip" p2) [a, b] [] pos2) X.env) :: starEach [] X.env := by rfl)
    (hs : starEach [a, b] X.env = (false, eval a X.env) :: starEach [b] X.env := by rfl) (hpl : (backTo pos2 (starEach [b] X.env)).any (·.1) = false := by rfl) :
    FE PX E X (.Call (.Name "list" p) [.Call (.Name "zip" p2) [a, b] [] pos2] [] pos) (qLz ga) :=
  wkE (pe_listZip hc hg hm hg2 hm2 h na hs hpl) fun st H Q ⟨F, r, P, R0, pp, k⟩ => by
    unfold ofT qLz at pp
    refine ⟨F, r, _, R0, wp2_bind2 pp, fun zs r1 vs F1 H1 q1 A1 ok => ?_⟩
    unfold lzK at q1
    split at q1
    · rename_i xs ys
      cases ok with
      | cons o1 t =>
        cases t with
        | cons o2 t =>
          cases t
          cases o1 with
          | lst a1 a2 =>
            cases o2 with
            | lst b1 b2 =>
              refine ⟨_, _, _, _, rfl, A1.rel.sub.seq a1, A1.rel.sub.seq b1, fun q ts n1 n2 n3 n4 n5 => ?_⟩
              obtain ⟨F2, A2, rp⟩ := aft_putZ ts _ _ _ _ A1.rel n2 n4 n5 a2 b2
              exact yldL_of (A1.trans A2) q1 k q _ (by rw [putZ_off _ _ _ n3]; exact n1) rp
    · exact q1.elim
end
end DL
set_option Elab.async false
set_option linter.all false
set_option autoImplicit false
set_option maxRecDepth 100000
set_option maxHeartbeats 4000000
namespace DL
open PySem L2 Out
local macro_rules | `(tactic| simp! [$ls,*]) => `(tactic| simp (maxSteps := 4000000) (disch := first | assumption | omega | (show nfnB _ = true; refine rfl2 ?_; with_unfolding_all rfl)) only [
  Out.bind_ok, Out.bind2_ok, Out.opt_some, Out.need_true, need_nf, need_false, bind_bad, bind2_bad, noX_bad, raiseIf_bad, onee_true, lenOk_t, lenLt_t, natB_t, posB_t, rngB_t, dmB_t, powB_t, repTB_t, repLB_t, Out.bind_exc, Out.bind2_exc, sat_raise_iff, Out.sat_ok, raiseIf_ok, noX_ok,
  qVar_eq, varK_d, varK_l, varK_b, qC_eq, fzK_d, fzK_n, fzK_v, fzV_l, fzV_d, qFz_eq, opK3_eq, opK2b_eq, opK2a_eq, opK2_eq, opK1_eq, qOp_eq, slotD_eq, slotO_eq, rd_d, rd_n, rd_v, it_d, it_l, it_b,
  opAdd_int, opAdd_str, opAdd_tup, opAdd_lst, opSub_int, opMul_int, opMod_int, opDiv_int, opPow_int, opRepT_tup, opRepP_tup, repK3_eq, repK2_eq, repK1_eq, qRep_eq, hg_true, mulOk_1, mulOk_2, mulOk_3,
  opLt_int, opLe_int, opGt_int, opGe_int, opEq_int, opNe_int, opEq_str, opNe_str, opEq_bool, opNe_bool, opEq_self, opNe_self, chK3_eq, chK2c_t, chK2c_f, chK2a_eq, chK2_eq, chK1_eq, qCh_eq, teK_eq, qTe_eq, tandK_t, tandK_f, torK_t, torK_f, tnotK_eq, qtAnd_eq, qtOr_eq, qtNot_eq,
  vandK_t, vandK_f, vorK_t, vorK_f, vnotK_eq, qAnd_eq, qOr_eq, qNot_eq, negK_eq, qNeg_eq, ifEK_t, ifEK_f, qIf_eq, opIx_l, opIx_t, opIx_s, oNone_eq, osK_eq, oSome_eq, sliD_l, sliD_t, sliD_s, sliK4_eq, sliK3_eq, sliK2_eq, sliK1_eq, qSli_eq, revD_l, revD_t, revK2_eq, revK_eq, qRev_eq,
  fNilQ_eq, fcK2_eq, fcK1_eq, fConsQ_eq, aNilQ_eq, acK2_eq, acK1_d, acK1_v, aConsQ_eq, mcK1_eq, mConsQ_eq, tupK_eq, qTup_eq, lstK_eq, qLst_eq, rdC_eq, rdAll_nil, rdAll_cons, biK2_eq, biK_eq, qB_eq, biLen_l, biLen_t, biTuple_l, biTuple_t, biList_l, biList_t, biAll_eq, biAny_eq, biSum_l, biSum_t, biMax2_eq, biMin2_eq, biDivmod_eq, biRepr_eq, isiK2_eq, nfnB_int, nfnB_str, nfnB_bool, nfnB_none, nfnB_tup, nfnB_lst, isiK_eq, qIsi_eq,
  opShl_int, opShr_int, opAndI_int, opOrI_int, opLt_tup, opLe_tup, opGt_tup, opGe_tup, rng_len, Int.toNat_natCast, biDict_l, pairsD_map, biMinL_eq, biMaxL_eq, foldI_c, biMaxD_l, biMaxD_t, biMinD_l, biMinD_t, extK_c, maxD_ii,  biSortedR_l, boolsD_mapf, boolsD_n, boolsD_c, intsD_n, intsD_c, intsD_mapf, boolsD_map, intsD_map, all_tt, biInt_i, biInt_b, biAbs_eq, opIn_l, opIn_t, opNin_l, opNin_t, iZpK_l, iZpK_t, iZpK_tl, iZpK_lt, qiZip_eq, agSl_l, agSl_b, biSorted_l, biSorted_t, opIxD_eq, qDNew_eq, dGet_nil, dicS_l, dicS_b, dpK3_eq, dpK2b_eq, dpK2_eq, dpK1_eq, dpK0_eq, qsDput_eq, dicA_l, dicA_b, dicA_d, inD3_eq, inD2_eq, inD1_eq, qInD_eq, setS_ints, setS_intsT, popK2_eq, popK1_eq, qPop_eq, popA4_eq, popA3_eq, popA2_eq, popA1_eq, popA0_eq, qPopAt_eq, extK3_eq, extK2_eq, extK1_eq, qsExt_eq, fnN_eq, qCallV_eq, cvK_t, agB_t, agK2c_eq, agK2b_eq, agK2_eq, agK1c_eq, agK1b_eq, agK1_eq, agK0_eq, qsAgP_eq, opAddI_int,
  isIntD, isBoolD, isTupD, isStrD, isListD, isDictD,
  lzK_l, qLz_eq, tr1K_eq, qTr1_eq, stpK5_eq, stpK4_l, stpK3_eq, stpK2_eq, stpK1_eq, qStp_eq, gtK3_eq, gtK2_eq, gtK1_eq, gtK0_eq, qGet_eq, idK5_eq, idK4_l, idK3_c, isLstD_l, idK2_eq, idK1_eq, qIdx_eq, cnK4_l, cnK3_c, cnK2_eq, cnK1_eq, qCnt_eq, 
  opNe0_l, opNe0_t, opEq0_l, opEq0_t, forDK_eq, qsForD_eq, lcDK_eq, isK2_eq, isK_eq, qIs_eq, isT_bool, qLcO_eq, lcOK_l, lcOK_d, lcO3_n, lcO2_eq, qLcD_eq, biSortedK_eq, dis3_eq, dis2_eq, dis1_eq, qDis_eq, kB_int, kB_str, tpB_tup,
  qsNext_eq, qsBrk_eq, qsCnt_eq, seqK_nx, seqK_rt, seqK_bk, seqK_ct, qsSeq_eq, dropK_eq, qsDrop_eq, retK_d, retK_n, retK_v, retV_l, retV_d, qsRet_eq, qsRetN_eq, ifSK_t, ifSK_f, qsIf_eq, setK_d, setK_n, qsSet_eq, tName_eq, tNil_eq, tCons_eq, tTupT_eq, nxK_eq, asgK_eq, qsAsg_eq, putQ_nil, putQ_d, putQ_n, parK_eq, qsPar_eq,
  appK0_eq, qsApp_eq, appK_eq, appK2_l, appK2_b, putK0_eq, putK1_eq, qsPut_eq, putK2_eq, putK3_l, putK3_b, putK4_eq, augK3_eq, augK1b_eq, augK1_eq, augK0_eq, qsAug_eq, iSeqK_l, iSeqK_t, qiSeq_eq, iR1K_eq, iR2K_eq, qiR1_eq, qiR2_eq, iR3K_eq, qiR3_eq, lrB_t, lr1K_eq, qLr1_eq, lr2K2_eq, lr2K_eq, qLr2_eq, iEnK_l, iEnK_t, qiEn_eq, lpK_nx, lpK_ct, lpK_bk, lpK_rt, forK_eq, forL_nil, forL_cons, qsFor_eq, qsWhile_eq,
  lcE3_eq, lcE2_t, lcE2_f, lcE1_eq, lcE_eq, lcK2_eq, lcK1_eq, qLc_eq, scK1_eq, scK3_eq, scK4_eq, qSc_eq, intQK_eq, qIntQ_eq, blt_t, qtYes_eq, lcL_nil, tOwn_eq, tOwnK_n, tOwnK_d, callK3_eq, callK2_eq, callK1_eq, qCall_eq, aRevK_eq, aRevQ_eq, List.reverse_cons, List.reverse_nil, endK_nx, endK_rt, endK2_eq, runF_eq, exitB_nil, exitB_d, exitB_b, argOf_d, argOf_v', argV_l, argV_b, argsOf_nil, argsOf_cons, argsC_eq, setC_eq, setO_l, setO_b, putB_n, putB_s, putF_s, putF_n, firstV_nil, firstV_v, firstV_d, resV_d, resV_l,
  oneB_nil, oneB_b, oneB_d, noB_nil, noB_b, noB_d, wipeD_nil, wipeD_cons, keepD_eq, keepO_d, keepO_n, backD_nil, backD_cons, entD_eq, ixN_pos, Lp_nx, Lp_ct, Lp_bk, Lp_rt, Option.map_some,
  at0, at1, at2, at3, at4, List.map_cons, List.map_nil, List.length_cons, List.length_nil, List.length_map, List.length_append, List.length_range, List.replicate_succ, List.replicate_zero, List.cons_append, List.nil_append, List.flatten_cons, List.flatten_nil, List.append_nil, List.getElem?_cons_zero, List.getElem?_cons_succ, List.set_cons_zero, List.set_cons_succ, List.all_cons, List.all_nil, List.any_cons, List.any_nil, id_eq,
  Nat.reduceAdd, Nat.reduceSub, Nat.reduceLeDiff, Nat.reduceLT, Nat.reduceEqDiff, Nat.reduceMul, Nat.reduceBEq, Int.reducePow, Int.reduceNeg, Int.reduceLT, Int.reduceLE, Int.reduceToNat, Int.reduceAdd, Int.reduceSub, Int.reduceMul, Int.reduceMod, Int.reduceDiv, Int.reduceEq, Nat.zero_add, Nat.add_zero, Nat.sub_self, Nat.add_one_sub_one, Nat.sub_zero, and_true, true_and, and_false, false_and, and_self, or_true, true_or, or_false, false_or, not_true_eq_false, not_false_eq_true, ne_eq, decide_true, decide_false, decide_eq_true_eq, Bool.not_true, Bool.not_false, Bool.and_true, Bool.true_and, Bool.and_false, Bool.false_and, Bool.or_true, Bool.true_or, Bool.or_false, Bool.false_or, Bool.not_not, eq_self, Bool.false_eq_true, ↓reduceIte, if_true, if_false, $ls,*])
def g_is_whole : FS :=
    (qsRet (qAnd (qIsi isIntD (qVar 0)) (qNot (qIsi isBoolD (qVar 0)))))
def r_is_whole : Run := runF 1 g_is_whole
def g_is_within : FS :=
    (qsRet (qAnd (qCall 1 r_is_whole (aConsQ (qFz (qVar 0)) aNilQ)) (qCh opLe opLe (qVar 1) (qVar 0) (qVar 2))))
def r_is_within : Run := runF 3 g_is_within
def g_is_from : FS :=
    (qsRet (qAnd (qCall 1 r_is_whole (aConsQ (qFz (qVar 0)) aNilQ)) (qOp opLe (qVar 1) (qVar 0))))
def r_is_from : Run := runF 2 g_is_from
def g_is_long : FS :=
    (qsRet (qAnd (qIsi isTupD (qVar 0)) (qCh opLe opLe (qVar 1) (qB biLen (aConsQ (qVar 0) aNilQ)) (qVar 2))))
def r_is_long : Run := runF 3 g_is_long
def g_common_of : FS :=
    (qsSeq (qsWhile (qTe (qOp opNe (qVar 1) (qC (.int 0))))
    (qsPar [0, 1] (mConsQ (qFz (qVar 1)) (mConsQ (qOp opMod (qVar 0) (qVar 1)) aNilQ))))
    (qsRet (qVar 0)))
def r_common_of : Run := runF 2 g_common_of
def g_fraction : FS :=
    (qsSeq (qsSet 2 (qCall 2 r_common_of (aConsQ (qFz (qVar 0)) (aConsQ (qFz (qVar 1)) aNilQ))))
    (qsRet (qTup (fConsQ (qOp opDiv (qVar 0) (qVar 2)) (fConsQ (qOp opDiv (qVar 1) (qVar 2)) fNilQ)))))
def r_fraction : Run := runF 3 g_fraction
def isWhole : PyData → Bool
  | .int _ => true
  | _ => false
def isWithin (x : PyData) (lo hi : Int) : Bool := match x with
  | .int i => decide (lo ≤ i) && decide (i ≤ hi)
  | _ => false
def isFrom (x : PyData) (lo : Int) : Bool := match x with
  | .int i => decide (lo ≤ i)
  | _ => false
def isLong (x : PyData) (lo hi : Int) : Bool := match x with
  | .tuple xs => decide (lo ≤ (xs.length : Nat)) && decide (((xs.length : Nat) : Int) ≤ hi)
  | _ => false
theorem isWithin_t {i lo hi : Int} (h1 : lo ≤ i) (h2 : i ≤ hi) : isWithin (.int i) lo hi = true := by
  show (decide _ && decide _) = true
  rw [decide_eq_true h1, decide_eq_true h2]
  rfl
theorem isFrom_t {i lo : Int} (h1 : lo ≤ i) : isFrom (.int i) lo = true := decide_eq_true h1
theorem isLong_t {xs : List PyData} {lo hi : Int} (h1 : lo ≤ (xs.length : Nat)) (h2 : ((xs.length : Nat) : Int) ≤ hi) : isLong (.tuple xs) lo hi = true := by
  show (decide _ && decide _) = true
  rw [decide_eq_true h1, decide_eq_true h2]
  rfl
theorem r_is_whole_eq (x : PyData) : r_is_whole [.d x] = need (nfnB x) (.ok (.d (.bool (isWhole x)), none)) := by
  cases h : nfnB x <;> cases x <;> first | (cases h; done) | simp! [r_is_whole, g_is_whole, isWhole, h]
theorem r_is_within_eq (x : PyData) (lo hi : Int) : r_is_within [.d x, .d (.int lo), .d (.int hi)] = need (nfnB x) (.ok (.d (.bool (isWithin x lo hi)), none)) := by
  cases h : nfnB x
  · simp! [r_is_within, g_is_within, r_is_whole_eq, h]
  · cases x with
    | int i =>
      by_cases h : lo ≤ i <;> simp! [r_is_within, g_is_within, r_is_whole_eq, isWhole, isWithin, h]
    | _ => simp! [r_is_within, g_is_within, r_is_whole_eq, isWhole, isWithin, h]
theorem r_is_from_eq (x : PyData) (lo : Int) : r_is_from [.d x, .d (.int lo)] = need (nfnB x) (.ok (.d (.bool (isFrom x lo)), none)) := by
  cases h : nfnB x
  · simp! [r_is_from, g_is_from, r_is_whole_eq, h]
  · cases x <;> simp! [r_is_from, g_is_from, r_is_whole_eq, isWhole, isFrom, h]
theorem r_is_long_eq (x : PyData) (lo hi : Int) : r_is_long [.d x, .d (.int lo), .d (.int hi)] = need (nfnB x) (.ok (.d (.bool (isLong x lo hi)), none)) := by
  cases h : nfnB x
  · simp! [r_is_long, g_is_long, h]
  · cases x with
    | tuple xs =>
      by_cases h : lo ≤ ((xs.length : Nat) : Int) <;> simp! [r_is_long, g_is_long, isLong, h]
    | _ => simp! [r_is_long, g_is_long, isLong, h]
theorem r_common_of_eq (x y : Nat) (hy : y < 10 ^ 250) : r_common_of [.d (.int x), .d (.int y)] = .ok (.d (.int (Nat.gcd x y : Nat)), none) := by
  unfold r_common_of g_common_of
  simp! []
  apply raiseIf_sat_eq
  simp only [sat_bind_iff]
  refine while_by (fun m r => ∃ a b : Nat, r = [some (.d (.int a)), some (.d (.int b))] ∧ Nat.gcd a b = Nat.gcd x y ∧ m = b) y hy ⟨x, y, rfl, rfl, rfl⟩ ?_
  rintro m r ⟨a, b, rfl, e, rfl⟩
  simp! []
  by_cases hb : m = 0
  · subst hb
    rw [Nat.gcd_zero_right] at e
    subst e
    simp! [Int.natCast_zero]
  · have hb' : ¬ ((m : Nat) : Int) = 0 := by omega
    simp! [hb']
    refine ⟨a % m, Nat.mod_lt _ (by omega), m, a % m, by simp, ?_, rfl⟩
    rw [Nat.gcd_comm, ← Nat.gcd_rec, Nat.gcd_comm]
    exact e

end DL
set_option Elab.async false
set_option linter.all false
set_option autoImplicit false
set_option maxRecDepth 100000
set_option maxHeartbeats 4000000
namespace DL
open PySem L2 Out
local macro_rules | `(tactic| simp! [$ls,*]) => `(tactic| simp (maxSteps := 4000000) (disch := first | assumption | omega | (show nfnB _ = true; refine rfl2 ?_; with_unfolding_all rfl)) only [
  Out.bind_ok, Out.bind2_ok, Out.opt_some, Out.need_true, need_nf, need_false, bind_bad, bind2_bad, noX_bad, raiseIf_bad, onee_true, lenOk_t, lenLt_t, natB_t, posB_t, rngB_t, dmB_t, powB_t, repTB_t, repLB_t, Out.bind_exc, Out.bind2_exc, sat_raise_iff, Out.sat_ok, raiseIf_ok, noX_ok,
  qVar_eq, varK_d, varK_l, varK_b, qC_eq, fzK_d, fzK_n, fzK_v, fzV_l, fzV_d, qFz_eq, opK3_eq, opK2b_eq, opK2a_eq, opK2_eq, opK1_eq, qOp_eq, slotD_eq, slotO_eq, rd_d, rd_n, rd_v, it_d, it_l, it_b,
  opAdd_int, opAdd_str, opAdd_tup, opAdd_lst, opSub_int, opMul_int, opMod_int, opDiv_int, opPow_int, opRepT_tup, opRepP_tup, repK3_eq, repK2_eq, repK1_eq, qRep_eq, hg_true, mulOk_1, mulOk_2, mulOk_3,
  opLt_int, opLe_int, opGt_int, opGe_int, opEq_int, opNe_int, opEq_str, opNe_str, opEq_bool, opNe_bool, opEq_self, opNe_self, chK3_eq, chK2c_t, chK2c_f, chK2a_eq, chK2_eq, chK1_eq, qCh_eq, teK_eq, qTe_eq, tandK_t, tandK_f, torK_t, torK_f, tnotK_eq, qtAnd_eq, qtOr_eq, qtNot_eq,
  vandK_t, vandK_f, vorK_t, vorK_f, vnotK_eq, qAnd_eq, qOr_eq, qNot_eq, negK_eq, qNeg_eq, ifEK_t, ifEK_f, qIf_eq, opIx_l, opIx_t, opIx_s, oNone_eq, osK_eq, oSome_eq, sliD_l, sliD_t, sliD_s, sliK4_eq, sliK3_eq, sliK2_eq, sliK1_eq, qSli_eq, revD_l, revD_t, revK2_eq, revK_eq, qRev_eq,
  fNilQ_eq, fcK2_eq, fcK1_eq, fConsQ_eq, aNilQ_eq, acK2_eq, acK1_d, acK1_v, aConsQ_eq, mcK1_eq, mConsQ_eq, tupK_eq, qTup_eq, lstK_eq, qLst_eq, rdC_eq, rdAll_nil, rdAll_cons, biK2_eq, biK_eq, qB_eq, biLen_l, biLen_t, biTuple_l, biTuple_t, biList_l, biList_t, biAll_eq, biAny_eq, biSum_l, biSum_t, biMax2_eq, biMin2_eq, biDivmod_eq, biRepr_eq, isiK2_eq, nfnB_int, nfnB_str, nfnB_bool, nfnB_none, nfnB_tup, nfnB_lst, isiK_eq, qIsi_eq,
  opShl_int, opShr_int, opAndI_int, opOrI_int, opLt_tup, opLe_tup, opGt_tup, opGe_tup, rng_len, Int.toNat_natCast, biDict_l, pairsD_map, biMinL_eq, biMaxL_eq, foldI_c, biMaxD_l, biMaxD_t, biMinD_l, biMinD_t, extK_c, maxD_ii,  biSortedR_l, boolsD_mapf, boolsD_n, boolsD_c, intsD_n, intsD_c, intsD_mapf, boolsD_map, intsD_map, all_tt, biInt_i, biInt_b, biAbs_eq, opIn_l, opIn_t, opNin_l, opNin_t, iZpK_l, iZpK_t, iZpK_tl, iZpK_lt, qiZip_eq, agSl_l, agSl_b, biSorted_l, biSorted_t, opIxD_eq, qDNew_eq, dGet_nil, dicS_l, dicS_b, dpK3_eq, dpK2b_eq, dpK2_eq, dpK1_eq, dpK0_eq, qsDput_eq, dicA_l, dicA_b, dicA_d, inD3_eq, inD2_eq, inD1_eq, qInD_eq, setS_ints, setS_intsT, popK2_eq, popK1_eq, qPop_eq, popA4_eq, popA3_eq, popA2_eq, popA1_eq, popA0_eq, qPopAt_eq, extK3_eq, extK2_eq, extK1_eq, qsExt_eq, fnN_eq, qCallV_eq, cvK_t, agB_t, agK2c_eq, agK2b_eq, agK2_eq, agK1c_eq, agK1b_eq, agK1_eq, agK0_eq, qsAgP_eq, opAddI_int,
  isIntD, isBoolD, isTupD, isStrD, isListD, isDictD,
  lzK_l, qLz_eq, tr1K_eq, qTr1_eq, stpK5_eq, stpK4_l, stpK3_eq, stpK2_eq, stpK1_eq, qStp_eq, gtK3_eq, gtK2_eq, gtK1_eq, gtK0_eq, qGet_eq, idK5_eq, idK4_l, idK3_c, isLstD_l, idK2_eq, idK1_eq, qIdx_eq, cnK4_l, cnK3_c, cnK2_eq, cnK1_eq, qCnt_eq, 
  opNe0_l, opNe0_t, opEq0_l, opEq0_t, forDK_eq, qsForD_eq, lcDK_eq, isK2_eq, isK_eq, qIs_eq, isT_bool, qLcO_eq, lcOK_l, lcOK_d, lcO3_n, lcO2_eq, qLcD_eq, biSortedK_eq, dis3_eq, dis2_eq, dis1_eq, qDis_eq, kB_int, kB_str, tpB_tup,
  qsNext_eq, qsBrk_eq, qsCnt_eq, seqK_nx, seqK_rt, seqK_bk, seqK_ct, qsSeq_eq, dropK_eq, qsDrop_eq, retK_d, retK_n, retK_v, retV_l, retV_d, qsRet_eq, qsRetN_eq, ifSK_t, ifSK_f, qsIf_eq, setK_d, setK_n, qsSet_eq, tName_eq, tNil_eq, tCons_eq, tTupT_eq, nxK_eq, asgK_eq, qsAsg_eq, putQ_nil, putQ_d, putQ_n, parK_eq, qsPar_eq,
  appK0_eq, qsApp_eq, appK_eq, appK2_l, appK2_b, putK0_eq, putK1_eq, qsPut_eq, putK2_eq, putK3_l, putK3_b, putK4_eq, augK3_eq, augK1b_eq, augK1_eq, augK0_eq, qsAug_eq, iSeqK_l, iSeqK_t, qiSeq_eq, iR1K_eq, iR2K_eq, qiR1_eq, qiR2_eq, iR3K_eq, qiR3_eq, lrB_t, lr1K_eq, qLr1_eq, lr2K2_eq, lr2K_eq, qLr2_eq, iEnK_l, iEnK_t, qiEn_eq, lpK_nx, lpK_ct, lpK_bk, lpK_rt, forK_eq, forL_nil, forL_cons, qsFor_eq, qsWhile_eq,
  lcE3_eq, lcE2_t, lcE2_f, lcE1_eq, lcE_eq, lcK2_eq, lcK1_eq, qLc_eq, scK1_eq, scK3_eq, scK4_eq, qSc_eq, intQK_eq, qIntQ_eq, blt_t, qtYes_eq, lcL_nil, tOwn_eq, tOwnK_n, tOwnK_d, callK3_eq, callK2_eq, callK1_eq, qCall_eq, aRevK_eq, aRevQ_eq, List.reverse_cons, List.reverse_nil, endK_nx, endK_rt, endK2_eq, runF_eq, exitB_nil, exitB_d, exitB_b, argOf_d, argOf_v', argV_l, argV_b, argsOf_nil, argsOf_cons, argsC_eq, setC_eq, setO_l, setO_b, putB_n, putB_s, putF_s, putF_n, firstV_nil, firstV_v, firstV_d, resV_d, resV_l,
  oneB_nil, oneB_b, oneB_d, noB_nil, noB_b, noB_d, wipeD_nil, wipeD_cons, keepD_eq, keepO_d, keepO_n, backD_nil, backD_cons, entD_eq, ixN_pos, Lp_nx, Lp_ct, Lp_bk, Lp_rt, Option.map_some,
  at0, at1, at2, at3, at4, List.map_cons, List.map_nil, List.length_cons, List.length_nil, List.length_map, List.length_append, List.length_range, List.replicate_succ, List.replicate_zero, List.cons_append, List.nil_append, List.flatten_cons, List.flatten_nil, List.append_nil, List.getElem?_cons_zero, List.getElem?_cons_succ, List.set_cons_zero, List.set_cons_succ, List.all_cons, List.all_nil, List.any_cons, List.any_nil, id_eq,
  Nat.reduceAdd, Nat.reduceSub, Nat.reduceLeDiff, Nat.reduceLT, Nat.reduceEqDiff, Nat.reduceMul, Nat.reduceBEq, Int.reducePow, Int.reduceNeg, Int.reduceLT, Int.reduceLE, Int.reduceToNat, Int.reduceAdd, Int.reduceSub, Int.reduceMul, Int.reduceMod, Int.reduceDiv, Int.reduceEq, Nat.zero_add, Nat.add_zero, Nat.sub_self, Nat.add_one_sub_one, Nat.sub_zero, and_true, true_and, and_false, false_and, and_self, or_true, true_or, or_false, false_or, not_true_eq_false, not_false_eq_true, ne_eq, decide_true, decide_false, decide_eq_true_eq, Bool.not_true, Bool.not_false, Bool.and_true, Bool.true_and, Bool.and_false, Bool.false_and, Bool.or_true, Bool.true_or, Bool.or_false, Bool.false_or, Bool.not_not, eq_self, Bool.false_eq_true, ↓reduceIte, if_true, if_false, $ls,*])
def g_law_cell_at : FS :=
    (qsSeq (qsIf (qTe (qOp opLt (qVar 1) (qB biLen (aConsQ (qVar 0) aNilQ))))
    (qsRet (qOp opIx (qVar 0) (qVar 1)))
    qsNext)
    (qsRet (qC (.int 0))))
def r_law_cell_at : Run := runF 2 g_law_cell_at
def g_law_pen : FS :=
    (qsSeq (qsSet 2 (qCall 2 r_law_cell_at (aConsQ (qFz (qVar 0)) (aConsQ (qFz (qVar 1)) aNilQ))))
    (qsRet (qLst (fConsQ (qB biMax2 (aConsQ (qFz (qC (.int 0))) (aConsQ (qFz (qOp opSub (qVar 2) (qOp opPow (qC (.int 10)) (qC (.int 18))))) aNilQ))) (fConsQ (qOp opAdd (qOp opMod (qVar 2) (qC (.int 2147483629))) (qC (.int 1))) (fConsQ (qC (.int 0)) fNilQ))))))
def r_law_pen : Run := runF 3 g_law_pen
def g_law_draw : FS :=
    (qsSeq (qsIf (qTe (qOp opGt (qOp opIx (qVar 0) (qC (.int 0))) (qC (.int 0))))
    (qsSeq (qsSet 3 (qOp opMod (qOp opIx (qVar 0) (qC (.int 0))) (qVar 1)))
    (qsSeq (qsPut 0 (qOp opDiv (qOp opIx (qVar 0) (qC (.int 0))) (qVar 1)) (qC (.int 0)))
    (qsRet (qVar 3))))
    qsNext)
    (qsSeq (qsPut 0 (qOp opAdd (qOp opIx (qVar 0) (qC (.int 2))) (qC (.int 1))) (qC (.int 2)))
    (qsSeq (qsPut 0 (qOp opMod (qOp opAdd (qOp opAdd (qOp opMul (qOp opIx (qVar 0) (qC (.int 1))) (qC (.int 48271))) (qOp opMul (qC (.int 1013)) (qOp opIx (qVar 0) (qC (.int 2))))) (qC (.int 9))) (qC (.int 2147483647))) (qC (.int 1)))
    (qsSeq (qsSet 2 (qOp opMod (qOp opAdd (qOp opAdd (qOp opMul (qOp opIx (qVar 0) (qC (.int 1))) (qOp opIx (qVar 0) (qC (.int 1)))) (qOp opMul (qC (.int 39373)) (qOp opIx (qVar 0) (qC (.int 1))))) (qC (.int 13))) (qC (.int 2147483629))))
    (qsSeq (qsSet 2 (qOp opMod (qOp opAdd (qOp opMul (qVar 2) (qVar 2)) (qOp opMul (qC (.int 16807)) (qVar 2))) (qC (.int 2147483587))))
    (qsRet (qOp opMod (qOp opDiv (qVar 2) (qC (.int 16))) (qVar 1))))))))
def r_law_draw : Run := runF 4 g_law_draw
def g_law_pick : FS :=
    (qsRet (qOp opIx (qVar 1) (qCall 2 r_law_draw (aConsQ (qVar 0) (aConsQ (qFz (qB biLen (aConsQ (qVar 1) aNilQ))) aNilQ)))))
def r_law_pick : Run := runF 2 g_law_pick
def g_law_same : FS :=
    (qsRet (qOp opEq (qB biRepr (aConsQ (qVar 0) aNilQ)) (qB biRepr (aConsQ (qVar 1) aNilQ))))
def r_law_same : Run := runF 2 g_law_same
theorem atD_map_int {ns : List Int} {k : Int} (h0 : 0 ≤ k) (h1 : k < (ns.length : Nat)) : ∃ c, atD (ns.map .int) k = some (.int c) := by
  unfold atD ixN
  have hl : k.toNat < ns.length := by omega
  rw [if_pos h0, if_pos (by rw [List.length_map]; omega)]
  exact ⟨ns[k.toNat], by simp [hl]⟩
theorem r_law_cell_at_ok {ns : List Int} {k : Int} (h0 : 0 ≤ k) : ∃ c : Int, r_law_cell_at [.d (.list (ns.map .int)), .d (.int k)] = .ok (.d (.int c), none) := by
  by_cases h : k < (ns.length : Nat)
  · obtain ⟨c, e⟩ := atD_map_int h0 h
    exact ⟨c, by simp! [r_law_cell_at, g_law_cell_at, h, e]⟩
  · exact ⟨0, by simp! [r_law_cell_at, g_law_cell_at, h]⟩
/-- a pen as the law's own drawing keeps it -/
def Pen (p : PyData) : Prop := ∃ a b c : Int, p = .list [.int a, .int b, .int c] ∧ 0 ≤ b ∧ b < 2147483648
theorem r_law_pen_ok {ns : List Int} {k : Int} (h0 : 0 ≤ k) : ∃ p, r_law_pen [.d (.list (ns.map .int)), .d (.int k)] = .ok (.l p, none) ∧ Pen p := by
  obtain ⟨c, e⟩ := r_law_cell_at_ok (ns := ns) h0
  refine ⟨_, by simp! [r_law_pen, g_law_pen, e, show (10:Int).natAbs < 2 ^ 64 by decide]; rfl, _, _, _, rfl, ?_, ?_⟩ <;> omega
theorem r_law_draw_ok {p : PyData} {m : Int} (hp : Pen p) (m0 : 0 < m) (m1 : m < 10 ^ 100) : ∃ r p', r_law_draw [.b p, .d (.int m)] = .ok (.d (.int r), some p') ∧ Pen p' ∧ 0 ≤ r ∧ r < m := by
  obtain ⟨a, b, c, rfl, b0, b1⟩ := hp
  have hm : Hg m := ⟨by omega, by omega⟩
  by_cases h : 0 < a
  · refine ⟨a % m, .list [.int (a / m), .int b, .int c], ?_, ⟨_, _, _, rfl, b0, b1⟩, Int.emod_nonneg _ (by omega), Int.emod_lt_of_pos _ m0⟩
    simp! [r_law_draw, g_law_draw, h, hm, m0]
  · refine ⟨_, _, (by simp! [r_law_draw, g_law_draw, h, hm, m0]; rfl), ⟨_, _, _, rfl, ?_, ?_⟩, Int.emod_nonneg _ (by omega), Int.emod_lt_of_pos _ m0⟩ <;> omega
theorem r_law_pick_ok {p : PyData} {xs : List PyData} (hp : Pen p) (h0 : 0 < xs.length) (h1 : xs.length < 1073741824) : ∃ x p', r_law_pick [.b p, .d (.list xs)] = .ok (.d x, some p') ∧ Pen p' ∧ x ∈ xs := by
  obtain ⟨r, p', e, hp', r0, r1⟩ := r_law_draw_ok (m := (xs.length : Nat)) hp (by omega) (by omega)
  have hl : r.toNat < xs.length := by omega
  refine ⟨xs[r.toNat], p', ?_, hp', List.getElem_mem _⟩
  have : atD xs r = some xs[r.toNat] := by
    unfold atD
    rw [ixN_pos r0 r1]
    simp [hl]
  simp! [r_law_pick, g_law_pick, e, this]
theorem r_law_same_eq {x y : PyData} (hx : okR x = true) (hy : okR y = true) : r_law_same [.d x, .d y] = .ok (.d (.bool (decide (x.shown = y.shown))), none) := by
  simp! [r_law_same, g_law_same, hx, hy]
theorem r_law_same_refl {x : PyData} (hx : okR x = true) : r_law_same [.d x, .d x] = .ok (.d (.bool true), none) := by
  rw [r_law_same_eq hx hx]
  simp

end DL
set_option Elab.async false
set_option linter.all false
set_option autoImplicit false
set_option maxRecDepth 100000
set_option maxHeartbeats 4000000
namespace DL
open PySem L2 Out
/-! rows sorted -/
theorem dataLe_id {α : Type} (f : α → PyData) (a b : α) : PySem.W.dataLe false f a b = PySem.W.dataLe false id (f a) (f b) := rfl
theorem srtD_map {α : Type} (f : α → PyData) (xs : List α) : srtD (xs.map f) = (xs.mergeSort (PySem.W.dataLe false f)).map f := by
  rw [srtD_ms, List.map_mergeSort]
  intro a _ b _
  exact dataLe_id f a b
theorem srtB_map {α : Type} {f : α → PyData} {xs : List α} (ha : ∀ a b, PySem.W.alike (f a) (f b) = true) (hk : (∀ a, tupOk (f a) = true) ∨ ∀ a, ntupOk (f a) = true) (hd : ∀ a, (f a).depth ≤ 60) (hl : xs.length ≤ 16777216) : srtB (xs.map f) = true := by
  have e1 : ((xs.map f).all fun d => (xs.map f).all (PySem.W.alike d)) = true := by
    simp only [List.all_map, List.all_eq_true, Function.comp]
    intro a _ b _
    exact ha a b
  have e2 : ((xs.map f).all tupOk || (xs.map f).all ntupOk) = true := by
    rcases hk with h | h
    · rw [show (xs.map f).all tupOk = true by simp only [List.all_map, List.all_eq_true, Function.comp]; exact fun a _ => h a]; rfl
    · rw [show (xs.map f).all ntupOk = true by simp only [List.all_map, List.all_eq_true, Function.comp]; exact fun a _ => h a, Bool.or_true]
  have e3 : ((xs.map f).all fun d => Nat.ble d.depth 60) = true := by
    simp only [List.all_map, List.all_eq_true, Function.comp]
    exact fun a _ => Nat.ble_eq.mpr (hd a)
  unfold srtB
  rw [e1, e2, e3, lenOk_t (by rw [List.length_map]; exact hl)]
  rfl
/-- by an order in which no two unlike ones are alike, what is sorted hangs on the members alone -/
theorem sorted_uniq {α : Type} {le : α → α → Bool} (anti : ∀ a b, le a b = true → le b a = true → a = b) : ∀ {xs ys : List α}, xs.Perm ys → xs.Pairwise (fun a b => le a b = true) → ys.Pairwise (fun a b => le a b = true) → xs = ys
  | [], ys, p, _, _ => (List.nil_perm.mp p).symm
  | x :: xs, ys, p, hx, hy => by
    cases ys with
    | nil => exact absurd p.length_eq (by simp)
    | cons y ys =>
      obtain ⟨x1, x2⟩ := List.pairwise_cons.mp hx
      obtain ⟨y1, y2⟩ := List.pairwise_cons.mp hy
      have e : x = y := by
        rcases List.mem_cons.mp (p.mem_iff.mp List.mem_cons_self) with e | e
        · exact e
        · rcases List.mem_cons.mp (p.mem_iff.mpr List.mem_cons_self) with e2 | e2
          · exact e2.symm
          · exact anti _ _ (x1 y e2) (y1 x e)
      subst e
      rw [sorted_uniq anti (List.Perm.cons_inv p) x2 y2]
theorem msort_perm {α : Type} {le : α → α → Bool} (anti : ∀ a b, le a b = true → le b a = true → a = b) (trans : ∀ a b c, le a b = true → le b c = true → le a c = true) (total : ∀ a b, (le a b || le b a) = true) {xs ys : List α} (p : xs.Perm ys) : xs.mergeSort le = ys.mergeSort le :=
  sorted_uniq anti (((List.mergeSort_perm xs le).trans p).trans (List.mergeSort_perm ys le).symm) (List.pairwise_mergeSort trans total xs) (List.pairwise_mergeSort trans total ys)
theorem srtD_ints (ns : List Int) : srtD (ns.map .int) = (ns.mergeSort fun a b => decide (a ≤ b)).map .int := by
  rw [srtD_map]
  congr 2
  exact PySem.W.dataLe_int (fun b : Int => b)
theorem srtB_ints {ns : List Int} (hl : ns.length ≤ 16777216) : srtB (ns.map .int) = true :=
  srtB_map (fun a b => by rw [PySem.W.alike]) (.inr fun a => rfl) (fun a => by rw [dp_int]; omega) hl
theorem intLe_anti (a b : Int) (h : decide (a ≤ b) = true) (h' : decide (b ≤ a) = true) : a = b := by
  have := of_decide_eq_true h
  have := of_decide_eq_true h'
  omega
theorem intLe_trans (a b c : Int) (h : decide (a ≤ b) = true) (h' : decide (b ≤ c) = true) : decide (a ≤ c) = true := by
  have := of_decide_eq_true h
  have := of_decide_eq_true h'
  exact decide_eq_true (by omega)
theorem intLe_total (a b : Int) : (decide (a ≤ b) || decide (b ≤ a)) = true := by
  rcases Int.le_total a b with h | h
  · rw [decide_eq_true h]; rfl
  · rw [decide_eq_true h, Bool.or_true]
/-- pairs -/
def pairD (p : Int × Int) : PyData := .tuple [.int p.1, .int p.2]
def pairLe (p q : Int × Int) : Bool := decide (p.1 < q.1 ∨ (p.1 = q.1 ∧ p.2 ≤ q.2))
theorem srtD_pairs (ps : List (Int × Int)) : srtD (ps.map pairD) = (ps.mergeSort pairLe).map pairD := by
  rw [srtD_map]
  congr 2
  exact PySem.W.dataLe_ii (fun p : Int × Int => p.1) (fun p => p.2)
theorem srtB_pairs {ps : List (Int × Int)} (hl : ps.length ≤ 16777216) : srtB (ps.map pairD) = true :=
  srtB_map (fun a b => by simp [pairD, PySem.W.alike, PySem.W.alikeAll]) (.inl fun a => rfl) (fun a => by simp [pairD, PyData.depth, PyData.depthAll]) hl
theorem pairLe_anti (a b : Int × Int) (h : pairLe a b = true) (h' : pairLe b a = true) : a = b := by
  have h1 := of_decide_eq_true h
  have h2 := of_decide_eq_true h'
  exact Prod.ext (by omega) (by omega)
theorem pairLe_trans (a b c : Int × Int) (h : pairLe a b = true) (h' : pairLe b c = true) : pairLe a c = true := by
  have h1 := of_decide_eq_true h
  have h2 := of_decide_eq_true h'
  exact decide_eq_true (by omega)
theorem pairLe_total (a b : Int × Int) : (pairLe a b || pairLe b a) = true := by
  cases h : pairLe a b
  · have h1 := of_decide_eq_false h
    rw [Bool.false_or]
    exact decide_eq_true (by omega)
  · rfl
theorem okE_nil : okE (.list []) = true := rfl
theorem opNe_nil : opNe (.list []) (.list []) = some (.d (.bool false)) := by
  rw [opNe_lst, okE_nil, eqv_lst, eqvA_nil]; rfl
theorem opNe_ne {xs : List PyData} (hx : okE (.list xs) = true) (h : xs ≠ []) : opNe (.list xs) (.list []) = some (.d (.bool true)) := by
  rw [opNe_lst, hx, okE_nil, eqv_lst]
  cases xs with
  | nil => exact absurd rfl h
  | cons x xs => rw [eqvA_cn]; rfl
theorem opEq_nil : opEq (.list []) (.list []) = some (.d (.bool true)) := by
  rw [opEq_lst, okE_nil, eqv_lst, eqvA_nil]; rfl
theorem opEq_ne {xs : List PyData} (hx : okE (.list xs) = true) (h : xs ≠ []) : opEq (.list xs) (.list []) = some (.d (.bool false)) := by
  rw [opEq_lst, hx, okE_nil, eqv_lst]
  cases xs with
  | nil => exact absurd rfl h
  | cons x xs => rw [eqvA_cn]; rfl
theorem atD_last (xs : List PyData) (y : PyData) : atD (xs ++ [y]) (-1) = some y := by
  unfold atD ixN
  rw [if_neg (by decide), if_pos (by rw [List.length_append, List.length_singleton]; omega)]
  have : (-1 + (((xs ++ [y]).length : Nat) : Int)).toNat = xs.length := by rw [List.length_append, List.length_singleton]; omega
  rw [this]
  show (xs ++ [y])[xs.length]? = some y
  simp
theorem ixN_last (n : Nat) : ixN (n + 1) (-1) = some n := by
  unfold ixN
  rw [if_neg (by decide), if_pos (by omega)]
  congr 1
  omega
theorem set_last {α : Type} (xs : List α) (y z : α) : (xs ++ [y]).set xs.length z = xs ++ [z] := by simp
theorem rngL_nat (a n : Nat) : rngL (a : Nat) n = (List.range' a n).map fun j : Nat => .int (j : Nat) := by
  unfold rngL
  rw [List.range'_eq_map_range, List.map_map]
  apply List.map_congr_left
  intro i _
  simp

end DL
set_option Elab.async false
set_option linter.all false
set_option autoImplicit false
set_option maxRecDepth 100000
set_option maxHeartbeats 4000000
namespace DL
open PySem L2 Out
local macro_rules | `(tactic| simp! [$ls,*]) => `(tactic| simp (maxSteps := 4000000) (disch := first | assumption | omega | (show nfnB _ = true; refine rfl2 ?_; with_unfolding_all rfl)) only [
  Out.bind_ok, Out.bind2_ok, Out.opt_some, Out.need_true, need_nf, need_false, bind_bad, bind2_bad, noX_bad, raiseIf_bad, onee_true, lenOk_t, lenLt_t, natB_t, posB_t, rngB_t, dmB_t, powB_t, repTB_t, repLB_t, Out.bind_exc, Out.bind2_exc, sat_raise_iff, Out.sat_ok, raiseIf_ok, noX_ok,
  qVar_eq, varK_d, varK_l, varK_b, qC_eq, fzK_d, fzK_n, fzK_v, fzV_l, fzV_d, qFz_eq, opK3_eq, opK2b_eq, opK2a_eq, opK2_eq, opK1_eq, qOp_eq, slotD_eq, slotO_eq, rd_d, rd_n, rd_v, it_d, it_l, it_b,
  opAdd_int, opAdd_str, opAdd_tup, opAdd_lst, opSub_int, opMul_int, opMod_int, opDiv_int, opPow_int, opRepT_tup, opRepP_tup, repK3_eq, repK2_eq, repK1_eq, qRep_eq, hg_true, mulOk_1, mulOk_2, mulOk_3,
  opLt_int, opLe_int, opGt_int, opGe_int, opEq_int, opNe_int, opEq_str, opNe_str, opEq_bool, opNe_bool, opEq_self, opNe_self, chK3_eq, chK2c_t, chK2c_f, chK2a_eq, chK2_eq, chK1_eq, qCh_eq, teK_eq, qTe_eq, tandK_t, tandK_f, torK_t, torK_f, tnotK_eq, qtAnd_eq, qtOr_eq, qtNot_eq,
  vandK_t, vandK_f, vorK_t, vorK_f, vnotK_eq, qAnd_eq, qOr_eq, qNot_eq, negK_eq, qNeg_eq, ifEK_t, ifEK_f, qIf_eq, opIx_l, opIx_t, opIx_s, oNone_eq, osK_eq, oSome_eq, sliD_l, sliD_t, sliD_s, sliK4_eq, sliK3_eq, sliK2_eq, sliK1_eq, qSli_eq, revD_l, revD_t, revK2_eq, revK_eq, qRev_eq,
  fNilQ_eq, fcK2_eq, fcK1_eq, fConsQ_eq, aNilQ_eq, acK2_eq, acK1_d, acK1_v, aConsQ_eq, mcK1_eq, mConsQ_eq, tupK_eq, qTup_eq, lstK_eq, qLst_eq, rdC_eq, rdAll_nil, rdAll_cons, biK2_eq, biK_eq, qB_eq, biLen_l, biLen_t, biTuple_l, biTuple_t, biList_l, biList_t, biAll_eq, biAny_eq, biSum_l, biSum_t, biMax2_eq, biMin2_eq, biDivmod_eq, biRepr_eq, isiK2_eq, nfnB_int, nfnB_str, nfnB_bool, nfnB_none, nfnB_tup, nfnB_lst, isiK_eq, qIsi_eq,
  opShl_int, opShr_int, opAndI_int, opOrI_int, opLt_tup, opLe_tup, opGt_tup, opGe_tup, rng_len, Int.toNat_natCast, biDict_l, pairsD_map, biMinL_eq, biMaxL_eq, foldI_c, biMaxD_l, biMaxD_t, biMinD_l, biMinD_t, extK_c, maxD_ii,  biSortedR_l, boolsD_mapf, boolsD_n, boolsD_c, intsD_n, intsD_c, intsD_mapf, boolsD_map, intsD_map, all_tt, biInt_i, biInt_b, biAbs_eq, opIn_l, opIn_t, opNin_l, opNin_t, iZpK_l, iZpK_t, iZpK_tl, iZpK_lt, qiZip_eq, agSl_l, agSl_b, biSorted_l, biSorted_t, opIxD_eq, qDNew_eq, dGet_nil, dicS_l, dicS_b, dpK3_eq, dpK2b_eq, dpK2_eq, dpK1_eq, dpK0_eq, qsDput_eq, dicA_l, dicA_b, dicA_d, inD3_eq, inD2_eq, inD1_eq, qInD_eq, setS_ints, setS_intsT, popK2_eq, popK1_eq, qPop_eq, popA4_eq, popA3_eq, popA2_eq, popA1_eq, popA0_eq, qPopAt_eq, extK3_eq, extK2_eq, extK1_eq, qsExt_eq, fnN_eq, qCallV_eq, cvK_t, agB_t, agK2c_eq, agK2b_eq, agK2_eq, agK1c_eq, agK1b_eq, agK1_eq, agK0_eq, qsAgP_eq, opAddI_int,
  isIntD, isBoolD, isTupD, isStrD, isListD, isDictD,
  lzK_l, qLz_eq, tr1K_eq, qTr1_eq, stpK5_eq, stpK4_l, stpK3_eq, stpK2_eq, stpK1_eq, qStp_eq, gtK3_eq, gtK2_eq, gtK1_eq, gtK0_eq, qGet_eq, idK5_eq, idK4_l, idK3_c, isLstD_l, idK2_eq, idK1_eq, qIdx_eq, cnK4_l, cnK3_c, cnK2_eq, cnK1_eq, qCnt_eq, 
  opNe0_l, opNe0_t, opEq0_l, opEq0_t, forDK_eq, qsForD_eq, lcDK_eq, isK2_eq, isK_eq, qIs_eq, isT_bool, qLcO_eq, lcOK_l, lcOK_d, lcO3_n, lcO2_eq, qLcD_eq, biSortedK_eq, dis3_eq, dis2_eq, dis1_eq, qDis_eq, kB_int, kB_str, tpB_tup,
  qsNext_eq, qsBrk_eq, qsCnt_eq, seqK_nx, seqK_rt, seqK_bk, seqK_ct, qsSeq_eq, dropK_eq, qsDrop_eq, retK_d, retK_n, retK_v, retV_l, retV_d, qsRet_eq, qsRetN_eq, ifSK_t, ifSK_f, qsIf_eq, setK_d, setK_n, qsSet_eq, tName_eq, tNil_eq, tCons_eq, tTupT_eq, nxK_eq, asgK_eq, qsAsg_eq, putQ_nil, putQ_d, putQ_n, parK_eq, qsPar_eq,
  appK0_eq, qsApp_eq, appK_eq, appK2_l, appK2_b, putK0_eq, putK1_eq, qsPut_eq, putK2_eq, putK3_l, putK3_b, putK4_eq, augK3_eq, augK1b_eq, augK1_eq, augK0_eq, qsAug_eq, iSeqK_l, iSeqK_t, qiSeq_eq, iR1K_eq, iR2K_eq, qiR1_eq, qiR2_eq, iR3K_eq, qiR3_eq, lrB_t, lr1K_eq, qLr1_eq, lr2K2_eq, lr2K_eq, qLr2_eq, iEnK_l, iEnK_t, qiEn_eq, lpK_nx, lpK_ct, lpK_bk, lpK_rt, forK_eq, forL_nil, forL_cons, qsFor_eq, qsWhile_eq,
  lcE3_eq, lcE2_t, lcE2_f, lcE1_eq, lcE_eq, lcK2_eq, lcK1_eq, qLc_eq, scK1_eq, scK3_eq, scK4_eq, qSc_eq, intQK_eq, qIntQ_eq, blt_t, qtYes_eq, lcL_nil, tOwn_eq, tOwnK_n, tOwnK_d, callK3_eq, callK2_eq, callK1_eq, qCall_eq, aRevK_eq, aRevQ_eq, List.reverse_cons, List.reverse_nil, endK_nx, endK_rt, endK2_eq, runF_eq, exitB_nil, exitB_d, exitB_b, argOf_d, argOf_v', argV_l, argV_b, argsOf_nil, argsOf_cons, argsC_eq, setC_eq, setO_l, setO_b, putB_n, putB_s, putF_s, putF_n, firstV_nil, firstV_v, firstV_d, resV_d, resV_l,
  oneB_nil, oneB_b, oneB_d, noB_nil, noB_b, noB_d, wipeD_nil, wipeD_cons, keepD_eq, keepO_d, keepO_n, backD_nil, backD_cons, entD_eq, ixN_pos, Lp_nx, Lp_ct, Lp_bk, Lp_rt, Option.map_some,
  at0, at1, at2, at3, at4, List.map_cons, List.map_nil, List.length_cons, List.length_nil, List.length_map, List.length_append, List.length_range, List.replicate_succ, List.replicate_zero, List.cons_append, List.nil_append, List.flatten_cons, List.flatten_nil, List.append_nil, List.getElem?_cons_zero, List.getElem?_cons_succ, List.set_cons_zero, List.set_cons_succ, List.all_cons, List.all_nil, List.any_cons, List.any_nil, id_eq,
  Nat.reduceAdd, Nat.reduceSub, Nat.reduceLeDiff, Nat.reduceLT, Nat.reduceEqDiff, Nat.reduceMul, Nat.reduceBEq, Int.reducePow, Int.reduceNeg, Int.reduceLT, Int.reduceLE, Int.reduceToNat, Int.reduceAdd, Int.reduceSub, Int.reduceMul, Int.reduceMod, Int.reduceDiv, Int.reduceEq, Nat.zero_add, Nat.add_zero, Nat.sub_self, Nat.add_one_sub_one, Nat.sub_zero, and_true, true_and, and_false, false_and, and_self, or_true, true_or, or_false, false_or, not_true_eq_false, not_false_eq_true, ne_eq, decide_true, decide_false, decide_eq_true_eq, Bool.not_true, Bool.not_false, Bool.and_true, Bool.true_and, Bool.and_false, Bool.false_and, Bool.or_true, Bool.true_or, Bool.or_false, Bool.false_or, Bool.not_not, eq_self, Bool.false_eq_true, ↓reduceIte, if_true, if_false, $ls,*])
def g_is_weave : FS :=
    (qsSeq (qsIf (qtOr (qtNot (qTe (qCall 3 r_is_long (aConsQ (qFz (qVar 0)) (aConsQ (qFz (qC (.int 2))) (aConsQ (qFz (qC (.int 2))) aNilQ)))))) (qtOr (qtNot (qTe (qCall 3 r_is_within (aConsQ (qFz (qOp opIx (qVar 0) (qC (.int 0)))) (aConsQ (qFz (qC (.int 1))) (aConsQ (qFz (qC (.int 12))) aNilQ)))))) (qtNot (qTe (qCall 3 r_is_long (aConsQ (qFz (qOp opIx (qVar 0) (qC (.int 1)))) (aConsQ (qFz (qC (.int 1))) (aConsQ (qFz (qC (.int 6))) aNilQ))))))))
    (qsRet (qC (.bool false)))
    qsNext)
    (qsRet (qB biAll (aConsQ (qFz (qLc (qiSeq (qOp opIx (qVar 0) (qC (.int 1)))) (tOwn 1) qtYes (qCall 3 r_is_within (aConsQ (qFz (qVar 1)) (aConsQ (qFz (qC (.int 1))) (aConsQ (qFz (qC (.int 60))) aNilQ)))) [1])) aNilQ))))
def r_is_weave : Run := runF 2 g_is_weave
def g_need_weave : FS :=
    (qsIf (qtNot (qTe (qCall 1 r_is_weave (aConsQ (qFz (qVar 0)) aNilQ))))
    qsNever
    qsNext)
def r_need_weave : Run := runF 1 g_need_weave
def g_many_places : FS :=
    (qsRet (qB biSum (aConsQ (qFz (qOp opIx (qVar 0) (qC (.int 1)))) aNilQ)))
def r_many_places : Run := runF 1 g_many_places
def g_need_place : FS :=
    (qsSeq (qsDrop (qCall 1 r_need_weave (aConsQ (qFz (qVar 0)) aNilQ)))
    (qsIf (qtNot (qTe (qCall 3 r_is_within (aConsQ (qFz (qVar 1)) (aConsQ (qFz (qC (.int 0))) (aConsQ (qFz (qOp opSub (qCall 1 r_many_places (aConsQ (qFz (qVar 0)) aNilQ)) (qC (.int 1)))) aNilQ))))))
    qsNever
    qsNext))
def r_need_place : Run := runF 2 g_need_place
def g_lies_by : FS :=
    (qsSeq (qsAsg (qB biDivmod (aConsQ (qVar 1) (aConsQ (qVar 0) aNilQ))) (tTupT 2 (tCons (tName 2) (tCons (tName 3) tNil))))
    (qsRet (qTup (fConsQ (qVar 2) (fConsQ (qIf (qTe (qOp opEq (qOp opMod (qVar 2) (qC (.int 2))) (qC (.int 0)))) (qVar 3) (qOp opSub (qOp opSub (qVar 0) (qC (.int 1))) (qVar 3))) fNilQ)))))
def r_lies_by : Run := runF 4 g_lies_by
def g_lies_at : FS :=
    (qsSeq (qsDrop (qCall 2 r_need_place (aConsQ (qFz (qVar 0)) (aConsQ (qFz (qVar 1)) aNilQ))))
    (qsRet (qCall 2 r_lies_by (aConsQ (qFz (qOp opIx (qVar 0) (qC (.int 0)))) (aConsQ (qFz (qVar 1)) aNilQ)))))
def r_lies_at : Run := runF 2 g_lies_at
def g_bobbin_at : FS :=
    (qsSeq (qsDrop (qCall 2 r_need_place (aConsQ (qFz (qVar 0)) (aConsQ (qFz (qVar 1)) aNilQ))))
    (qsSeq (qsFor (qiEn (fConsQ (qOp opIx (qVar 0) (qC (.int 1))) fNilQ)) (tTupT 2 (tCons (tName 2) (tCons (tName 3) tNil)))
    (qsSeq (qsIf (qTe (qOp opLt (qVar 1) (qVar 3)))
    (qsRet (qTup (fConsQ (qVar 2) (fConsQ (qVar 1) fNilQ))))
    qsNext)
    (qsSet 1 (qOp opSub (qVar 1) (qVar 3)))))
    (qsRet (qC .none))))
def r_bobbin_at : Run := runF 4 g_bobbin_at
def g_place_at : FS :=
    (qsSeq (qsDrop (qCall 1 r_need_weave (aConsQ (qFz (qVar 0)) aNilQ)))
    (qsSeq (qsIf (qtNot (qTe (qCall 2 r_is_from (aConsQ (qFz (qVar 1)) (aConsQ (qFz (qC (.int 0))) aNilQ)))))
    qsNever
    qsNext)
    (qsSeq (qsSet 3 (qOp opIx (qVar 0) (qC (.int 0))))
    (qsSeq (qsIf (qtNot (qTe (qCall 3 r_is_within (aConsQ (qFz (qVar 2)) (aConsQ (qFz (qC (.int 0))) (aConsQ (qFz (qOp opSub (qVar 3) (qC (.int 1)))) aNilQ))))))
    qsNever
    qsNext)
    (qsSeq (qsSet 4 (qOp opAdd (qOp opMul (qVar 1) (qVar 3)) (qIf (qTe (qOp opEq (qOp opMod (qVar 1) (qC (.int 2))) (qC (.int 0)))) (qVar 2) (qOp opSub (qOp opSub (qVar 3) (qC (.int 1))) (qVar 2)))))
    (qsRet (qIf (qTe (qOp opLt (qVar 4) (qCall 1 r_many_places (aConsQ (qFz (qVar 0)) aNilQ)))) (qVar 4) (qC .none))))))))
def r_place_at : Run := runF 5 g_place_at
def g_is_span : FS :=
    (qsSeq (qsIf (qtOr (qtNot (qTe (qCall 3 r_is_long (aConsQ (qFz (qVar 1)) (aConsQ (qFz (qC (.int 2))) (aConsQ (qFz (qC (.int 2))) aNilQ)))))) (qtNot (qTe (qB biAll (aConsQ (qFz (qLc (qiSeq (qVar 1)) (tOwn 2) qtYes (qCall 3 r_is_within (aConsQ (qFz (qVar 2)) (aConsQ (qFz (qC (.int 0))) (aConsQ (qFz (qOp opSub (qCall 1 r_many_places (aConsQ (qFz (qVar 0)) aNilQ)) (qC (.int 1)))) aNilQ)))) [2])) aNilQ)))))
    (qsRet (qC (.bool false)))
    qsNext)
    (qsRet (qOp opLe (qOp opIx (qVar 1) (qC (.int 0))) (qOp opIx (qVar 1) (qC (.int 1))))))
def r_is_span : Run := runF 3 g_is_span
def g_covered : FS :=
    (qsSeq (qsDrop (qCall 1 r_need_weave (aConsQ (qFz (qVar 0)) aNilQ)))
    (qsSeq (qsIf (qtNot (qTe (qCall 2 r_is_span (aConsQ (qFz (qVar 0)) (aConsQ (qFz (qVar 1)) aNilQ)))))
    qsNever
    qsNext)
    (qsRet (qB biTuple (aConsQ (qFz (qB biSorted (aConsQ (qFz (qLc (qiR2 (fConsQ (qOp opIx (qVar 1) (qC (.int 0))) (fConsQ (qOp opAdd (qOp opIx (qVar 1) (qC (.int 1))) (qC (.int 1))) fNilQ))) (tOwn 2) qtYes (qCall 2 r_lies_by (aConsQ (qFz (qOp opIx (qVar 0) (qC (.int 0)))) (aConsQ (qFz (qVar 2)) aNilQ))) [2])) aNilQ))) aNilQ)))))
def r_covered : Run := runF 3 g_covered
def g_is_area : FS :=
    (qsSeq (qsIf (qtOr (qtNot (qTe (qCall 3 r_is_long (aConsQ (qFz (qVar 1)) (aConsQ (qFz (qC (.int 4))) (aConsQ (qFz (qC (.int 4))) aNilQ)))))) (qtNot (qTe (qB biAll (aConsQ (qFz (qLc (qiSeq (qSli (qVar 1) oNone (oSome (qC (.int 2))))) (tOwn 2) qtYes (qCall 2 r_is_from (aConsQ (qFz (qVar 2)) (aConsQ (qFz (qC (.int 0))) aNilQ))) [2])) aNilQ)))))
    (qsRet (qC (.bool false)))
    qsNext)
    (qsSeq (qsIf (qtNot (qTe (qB biAll (aConsQ (qFz (qLc (qiSeq (qSli (qVar 1) (oSome (qC (.int 2))) oNone)) (tOwn 3) qtYes (qCall 3 r_is_within (aConsQ (qFz (qVar 3)) (aConsQ (qFz (qC (.int 0))) (aConsQ (qFz (qOp opSub (qOp opIx (qVar 0) (qC (.int 0))) (qC (.int 1)))) aNilQ)))) [3])) aNilQ))))
    (qsRet (qC (.bool false)))
    qsNext)
    (qsRet (qAnd (qOp opLe (qOp opIx (qVar 1) (qC (.int 0))) (qOp opIx (qVar 1) (qC (.int 1)))) (qOp opLe (qOp opIx (qVar 1) (qC (.int 2))) (qOp opIx (qVar 1) (qC (.int 3))))))))
def r_is_area : Run := runF 4 g_is_area
def g_runs_of : FS :=
    (qsSeq (qsSet 1 (qLst fNilQ))
    (qsSeq (qsFor (qiSeq (qVar 0)) (tName 2)
    (qsIf (qtAnd (qTe (qOp opNe (qVar 1) (qLst fNilQ))) (qTe (qOp opEq (qOp opIx (qOp opIx (qVar 1) (qNeg (qC (.int 1)))) (qC (.int 1))) (qOp opSub (qVar 2) (qC (.int 1))))))
    (qsPut 1 (qTup (fConsQ (qOp opIx (qOp opIx (qVar 1) (qNeg (qC (.int 1)))) (qC (.int 0))) (fConsQ (qVar 2) fNilQ))) (qNeg (qC (.int 1))))
    (qsApp 1 (fConsQ (qTup (fConsQ (qVar 2) (fConsQ (qVar 2) fNilQ))) fNilQ))))
    (qsRet (qB biTuple (aConsQ (qVar 1) aNilQ)))))
def r_runs_of : Run := runF 3 g_runs_of
def g_spans_in : FS :=
    (qsSeq (qsDrop (qCall 1 r_need_weave (aConsQ (qFz (qVar 0)) aNilQ)))
    (qsSeq (qsIf (qtNot (qTe (qCall 2 r_is_area (aConsQ (qFz (qVar 0)) (aConsQ (qFz (qVar 1)) aNilQ)))))
    qsNever
    qsNext)
    (qsSeq (qsAsg (qVar 1) (tTupT 4 (tCons (tName 2) (tCons (tName 3) (tCons (tName 4) (tCons (tName 5) tNil))))))
    (qsSeq (qsSet 6 (qLst fNilQ))
    (qsSeq (qsFor (qiR1 (fConsQ (qCall 1 r_many_places (aConsQ (qFz (qVar 0)) aNilQ)) fNilQ)) (tName 7)
    (qsSeq (qsAsg (qCall 2 r_lies_by (aConsQ (qFz (qOp opIx (qVar 0) (qC (.int 0)))) (aConsQ (qFz (qVar 7)) aNilQ))) (tTupT 2 (tCons (tName 8) (tCons (tName 9) tNil))))
    (qsIf (qtAnd (qTe (qCh opLe opLe (qVar 2) (qVar 8) (qVar 3))) (qTe (qCh opLe opLe (qVar 4) (qVar 9) (qVar 5))))
    (qsApp 6 (fConsQ (qVar 7) fNilQ))
    qsNext)))
    (qsRet (qCall 1 r_runs_of (aConsQ (qFz (qVar 6)) aNilQ))))))))
def r_spans_in : Run := runF 10 g_spans_in
/-! the weft's walk -/
def natsD (bs : List Nat) : PyData := .tuple (bs.map fun b : Nat => .int (b : Nat))
def wvD (w : Nat) (bs : List Nat) : PyData := .tuple [.int (w : Nat), natsD bs]
structure Wv (w : Nat) (bs : List Nat) : Prop where
  w1 : 1 ≤ w
  w2 : w ≤ 12
  l1 : 1 ≤ bs.length
  l2 : bs.length ≤ 6
  b : ∀ b ∈ bs, 1 ≤ b ∧ b ≤ 60
theorem sum_le {bs : List Nat} (h : ∀ b ∈ bs, b ≤ 60) : bs.sum ≤ 60 * bs.length := by
  induction bs with
  | nil => simp
  | cons b bs ih =>
    have := ih fun x hx => h x (List.mem_cons_of_mem _ hx)
    have := h b List.mem_cons_self
    simp only [List.sum_cons, List.length_cons]
    omega
theorem Wv.sum {w : Nat} {bs : List Nat} (k : Wv w bs) : bs.sum ≤ 360 ∧ 1 ≤ bs.sum := by
  have h1 := sum_le (bs := bs) fun b hb => (k.b b hb).2
  have h2 := k.l2
  refine ⟨by omega, ?_⟩
  have h3 := k.l1
  have h4 := k.b
  cases bs with
  | nil => simp at h3
  | cons b bs =>
    have := (h4 b List.mem_cons_self).1
    simp only [List.sum_cons]
    omega
theorem sum_cast (bs : List Nat) : (bs.map fun b : Nat => (b : Int)).sum = ((bs.sum : Nat) : Int) := by
  induction bs with
  | nil => rfl
  | cons b bs ih => simp [ih]
def liesE (w n : Nat) : Nat := if (n / w) % 2 = 0 then n % w else w - 1 - n % w
def spotD (p : Nat × Nat) : PyData := .tuple [.int (p.1 : Nat), .int (p.2 : Nat)]
def lies (w n : Nat) : Nat × Nat := (n / w, liesE w n)
theorem r_lies_by_ok {w n : Nat} (w1 : 1 ≤ w) (w2 : w ≤ 12) : r_lies_by [.d (.int (w : Nat)), .d (.int (n : Nat))] = .ok (.d (spotD (lies w n)), none) := by
  have e1 : (n : Int) / (w : Int) = ((n / w : Nat) : Int) := by simp
  have e2 : (n : Int) % (w : Int) = ((n % w : Nat) : Int) := by simp
  have lt : n % w < w := Nat.mod_lt _ (by omega)
  have hd : dmB (w : Int) = true := dmB_t (by omega) (by omega)
  by_cases h : (n / w) % 2 = 0
  · have h' : ((n / w : Nat) : Int) % 2 = 0 := by omega
    simp! [r_lies_by, g_lies_by, hd, e1, e2, h']
    unfold spotD lies liesE
    rw [if_pos h]
  · have h' : ¬ ((n / w : Nat) : Int) % 2 = 0 := by omega
    simp! [r_lies_by, g_lies_by, hd, e1, e2, h']
    unfold spotD lies liesE
    rw [if_neg h]
    rw [show ((w - 1 - n % w : Nat) : Int) = (w : Int) - 1 - ((n % w : Nat) : Int) by omega]
theorem opIx_wv0 (w : Nat) (bs : List Nat) : opIx (wvD w bs) (.int 0) = some (.d (.int (w : Nat))) := rfl
theorem opIx_wv1 (w : Nat) (bs : List Nat) : opIx (wvD w bs) (.int 1) = some (.d (natsD bs)) := rfl
theorem biSum_nats (bs : List Nat) : biSum [natsD bs] = some (.d (.int (bs.sum : Nat))) := by
  unfold natsD
  rw [biSum_t, intsD_mapf, Option.map_some, sum_cast]
theorem iSeqK_nats (bs : List Nat) (r : DEnv) : iSeqK (.d (natsD bs)) r = .ok (bs.map fun b : Nat => .int (b : Nat), r) := rfl
theorem r_many_places_ok (w : Nat) (bs : List Nat) : r_many_places [.d (wvD w bs)] = .ok (.d (.int (bs.sum : Nat)), none) := by
  simp! [r_many_places, g_many_places, opIx_wv1, biSum_nats]
theorem r_is_weave_ok {w : Nat} {bs : List Nat} (k : Wv w bs) : r_is_weave [.d (wvD w bs)] = .ok (.d (.bool true), none) := by
  have w1 := k.w1
  have w2 := k.w2
  have l1 := k.l1
  have l2 := k.l2
  have e0 : isLong (wvD w bs) 2 2 = true := rfl
  have e1 : isWithin (.int (w : Nat)) 1 12 = true := isWithin_t (by omega) (by omega)
  have e2 : isLong (natsD bs) 1 6 = true := isLong_t (by rw [List.length_map]; omega) (by rw [List.length_map]; omega)
  simp! [r_is_weave, g_is_weave, r_is_long_eq, r_is_within_eq, opIx_wv0, opIx_wv1, e0, e1, e2, iSeqK_nats]
  rw [lcL_mapT (e := fun b : Nat => .int (b : Nat)) (fun _ => .bool true) fun b hb => by
    have := k.b b hb
    have e3 : isWithin (.int (b : Nat)) 1 60 = true := isWithin_t (by omega) (by omega)
    simp! [r_is_within_eq, e3]]
  simp! []
theorem r_need_weave_ok {w : Nat} {bs : List Nat} (k : Wv w bs) : r_need_weave [.d (wvD w bs)] = .ok (.d .none, none) := by
  simp! [r_need_weave, g_need_weave, r_is_weave_ok k]
theorem r_need_place_ok {w n : Nat} {bs : List Nat} (k : Wv w bs) (h : n < bs.sum) : r_need_place [.d (wvD w bs), .d (.int (n : Nat))] = .ok (.d .none, none) := by
  have e3 : isWithin (.int (n : Nat)) 0 ((bs.sum : Nat) - 1) = true := isWithin_t (by omega) (by omega)
  simp! [r_need_place, g_need_place, r_need_weave_ok k, r_many_places_ok, r_is_within_eq, e3]
theorem r_lies_at_ok {w n : Nat} {bs : List Nat} (k : Wv w bs) (h : n < bs.sum) : r_lies_at [.d (wvD w bs), .d (.int (n : Nat))] = .ok (.d (spotD (lies w n)), none) := by
  simp! [r_lies_at, g_lies_at, r_need_place_ok k h, opIx_wv0, r_lies_by_ok k.w1 k.w2]
/-- the bobbin of a place and the place of it -/
def bobF : List Nat → Nat → Nat × Nat
  | [], n => (0, n)
  | b :: bs, n => if n < b then (0, n) else ((bobF bs (n - b)).1 + 1, (bobF bs (n - b)).2)
theorem bobF_cons (b : Nat) (bs : List Nat) (n : Nat) : bobF (b :: bs) n = if n < b then (0, n) else ((bobF bs (n - b)).1 + 1, (bobF bs (n - b)).2) := rfl
theorem bobF_ok : ∀ (bs : List Nat) (n : Nat), n < bs.sum → ∃ h : (bobF bs n).1 < bs.length, (bs.take (bobF bs n).1).sum + (bobF bs n).2 = n ∧ (bobF bs n).2 < bs[(bobF bs n).1]
  | [], n, h => by simp at h
  | b :: bs, n, h => by
    unfold bobF
    by_cases hb : n < b
    · simp only [if_pos hb]
      exact ⟨by simp, by simp, by simpa using hb⟩
    · simp only [if_neg hb]
      rw [List.sum_cons] at h
      obtain ⟨h1, h2, h3⟩ := bobF_ok bs (n - b) (by omega)
      exact ⟨by simpa using h1, by simp only [List.take_succ_cons, List.sum_cons]; omega, by simpa using h3⟩
theorem enumD_map {α : Type} (f : α → PyData) (xs : List α) : enumD (xs.map f) = (List.range xs.length).map fun i => .tuple [.int (i : Nat), ((xs.map f)[i]?).getD .none] := by
  apply List.ext_getElem?
  intro i
  by_cases h : i < xs.length
  · have hl : i < (enumD (xs.map f)).length := by rw [enumD_len, List.length_map]; exact h
    obtain ⟨y, e1, e2, e3⟩ := enum_at (List.getElem?_eq_getElem hl)
    rw [List.getElem?_eq_getElem hl, e3, List.getElem?_map, List.getElem?_range h, Option.map_some, e1]
    rfl
  · rw [List.getElem?_eq_none (by rw [enumD_len, List.length_map]; omega), List.getElem?_eq_none (by simp; omega)]
theorem r_bobbin_at_ok {w n : Nat} {bs : List Nat} (k : Wv w bs) (h : n < bs.sum) : r_bobbin_at [.d (wvD w bs), .d (.int (n : Nat))] = .ok (.d (spotD (bobF bs n)), none) := by
  simp! [r_bobbin_at, g_bobbin_at, r_need_place_ok k h, opIx_wv1]
  rw [show iEnK [natsD bs] [some (.d (wvD w bs)), some (.d (.int (n : Nat))), none, none] = .ok (enumD (bs.map fun b : Nat => .int (b : Nat)), [some (.d (wvD w bs)), some (.d (.int (n : Nat))), none, none]) from rfl]
  simp! []
  apply raiseIf_sat_eq
  simp only [sat_bind_iff]
  refine forL_ix (fun i r => ∃ (x2 x3 : Option Sl) (m : Nat), r = [some (.d (wvD w bs)), some (.d (.int (m : Nat))), x2, x3] ∧ m < (bs.drop i).sum ∧ bobF bs n = ((bobF (bs.drop i) m).1 + i, (bobF (bs.drop i) m).2)) ⟨_, _, n, rfl, by simpa using h, by simp⟩ ?_ ?_
  · rintro i x r hx ⟨x2, x3, m, rfl, hm, hb⟩
    obtain ⟨y, e1, e2, e3⟩ := enum_at hx
    rw [List.length_map] at e2
    rw [List.getElem?_map, List.getElem?_eq_getElem e2, Option.map_some] at e1
    cases e1
    subst e3
    have hd : bs.drop i = bs[i] :: bs.drop (i + 1) := by rw [List.getElem_cons_drop]
    rw [hd] at hm hb
    rw [List.sum_cons] at hm
    rw [bobF_cons] at hb
    by_cases c : m < bs[i]
    · rw [if_pos c] at hb
      have c' : (m : Int) < (bs[i] : Nat) := by omega
      simp! [c']
      rw [hb]
      simp [spotD]
    · rw [if_neg c] at hb
      have c' : ¬ (m : Int) < (bs[i] : Nat) := by omega
      simp! [c']
      refine ⟨some (.d (.int (i : Nat))), some (.d (.int (bs[i] : Nat))), m - bs[i], ?_, by omega, ?_⟩
      · rw [show ((m - bs[i] : Nat) : Int) = (m : Int) - (bs[i] : Nat) by omega]
      · rw [hb]
        exact Prod.ext (by show _ + 1 + i = _ + (i + 1); omega) rfl
  · rintro r ⟨x2, x3, m, rfl, hm, hb⟩
    rw [enumD_len, List.length_map, List.drop_length] at hm
    simp at hm
theorem lies_lt {w n : Nat} (w1 : 1 ≤ w) : liesE w n < w := by
  have lt : n % w < w := Nat.mod_lt _ (by omega)
  unfold liesE
  split <;> omega
/-- the place at a pick and an end -/
def placeF (w p e : Nat) : Nat := p * w + if p % 2 = 0 then e else w - 1 - e
theorem place_lies {w n : Nat} (w1 : 1 ≤ w) : placeF w (n / w) (liesE w n) = n := by
  have lt : n % w < w := Nat.mod_lt _ (by omega)
  have e := Nat.div_add_mod n w
  rw [Nat.mul_comm] at e
  unfold placeF liesE
  by_cases h : (n / w) % 2 = 0
  · rw [if_pos h, if_pos h]; exact e
  · rw [if_neg h, if_neg h]; omega
theorem r_place_at_ok {w p e : Nat} {bs : List Nat} (k : Wv w bs) (he : e < w) (hp : p < 10 ^ 15) : r_place_at [.d (wvD w bs), .d (.int (p : Nat)), .d (.int (e : Nat))] = .ok (.d (if placeF w p e < bs.sum then .int (placeF w p e : Nat) else .none), none) := by
  have w2 := k.w2
  have e1 : isFrom (.int (p : Nat)) 0 = true := isFrom_t (by omega)
  have e2 : isWithin (.int (e : Nat)) 0 ((w : Nat) - 1) = true := isWithin_t (by omega) (by omega)
  have e4 : (p : Int) * (w : Int) = ((p * w : Nat) : Int) := by simp
  have e5 : placeF w p e = p * w + if p % 2 = 0 then e else w - 1 - e := rfl
  by_cases h : p % 2 = 0
  · have h' : (p : Int) % 2 = 0 := by omega
    rw [if_pos h] at e5
    by_cases c : placeF w p e < bs.sum
    · have c' : ((p * w : Nat) : Int) + (e : Int) < (bs.sum : Nat) := by omega
      simp! [r_place_at, g_place_at, r_need_weave_ok k, r_is_from_eq, e1, opIx_wv0, r_is_within_eq, e2, r_many_places_ok, h', e4, c']
      rw [if_pos c, e5]
      simp
    · have c' : ¬ ((p * w : Nat) : Int) + (e : Int) < (bs.sum : Nat) := by omega
      simp! [r_place_at, g_place_at, r_need_weave_ok k, r_is_from_eq, e1, opIx_wv0, r_is_within_eq, e2, r_many_places_ok, h', e4, c']
      rw [if_neg c]
  · have h' : ¬ (p : Int) % 2 = 0 := by omega
    rw [if_neg h] at e5
    by_cases c : placeF w p e < bs.sum
    · have c' : ((p * w : Nat) : Int) + ((w : Int) - 1 - (e : Int)) < (bs.sum : Nat) := by omega
      simp! [r_place_at, g_place_at, r_need_weave_ok k, r_is_from_eq, e1, opIx_wv0, r_is_within_eq, e2, r_many_places_ok, h', e4, c']
      rw [if_pos c, e5]
      rw [show ((p * w + (w - 1 - e) : Nat) : Int) = ((p * w : Nat) : Int) + ((w : Int) - 1 - (e : Int)) by omega]
    · have c' : ¬ ((p * w : Nat) : Int) + ((w : Int) - 1 - (e : Int)) < (bs.sum : Nat) := by omega
      simp! [r_place_at, g_place_at, r_need_weave_ok k, r_is_from_eq, e1, opIx_wv0, r_is_within_eq, e2, r_many_places_ok, h', e4, c']
      rw [if_neg c]
def liesZ (w n : Nat) : Int × Int := (((n / w : Nat) : Int), ((liesE w n : Nat) : Int))
theorem spot_pair (w n : Nat) : spotD (lies w n) = pairD (liesZ w n) := rfl
def covZ (w a n : Nat) : List (Int × Int) := ((List.range' a n).map (liesZ w)).mergeSort pairLe
theorem r_is_span_ok {w a b : Nat} {bs : List Nat} (k : Wv w bs) (h : a ≤ b) (hb : b < bs.sum) : r_is_span [.d (wvD w bs), .d (.tuple [.int (a : Nat), .int (b : Nat)])] = .ok (.d (.bool true), none) := by
  have e0 : isLong (.tuple [.int (a : Nat), .int (b : Nat)]) 2 2 = true := rfl
  have e1 : isWithin (.int (a : Nat)) 0 ((bs.sum : Nat) - 1) = true := isWithin_t (by omega) (by omega)
  have e2 : isWithin (.int (b : Nat)) 0 ((bs.sum : Nat) - 1) = true := isWithin_t (by omega) (by omega)
  have c : (a : Int) ≤ (b : Int) := by omega
  simp! [r_is_span, g_is_span, r_is_long_eq, e0, r_is_within_eq, r_many_places_ok, e1, e2]
  rw [show [PyData.int (a : Nat), PyData.int (b : Nat)] = [a, b].map fun n : Nat => .int (n : Nat) from rfl]
  rw [lcL_mapT (e := fun b : Nat => .int (b : Nat)) (fun _ => .bool true) fun n hn => by
    have e3 : isWithin (.int (n : Nat)) 0 ((bs.sum : Nat) - 1) = true := by
      rcases List.mem_cons.mp hn with e | hn
      · subst e; exact e1
      · rw [List.mem_singleton.mp hn]; exact e2
    simp! [r_is_within_eq, r_many_places_ok, e3]]
  simp! [c]
theorem r_covered_ok {w a b : Nat} {bs : List Nat} (k : Wv w bs) (h : a ≤ b) (hb : b < bs.sum) : r_covered [.d (wvD w bs), .d (.tuple [.int (a : Nat), .int (b : Nat)])] = .ok (.d (.tuple ((covZ w a (b + 1 - a)).map pairD)), none) := by
  have hs := k.sum.1
  simp! [r_covered, g_covered, r_need_weave_ok k, r_is_span_ok k h hb, opIx_wv0]
  rw [show ((b : Int) + 1 - (a : Int)).toNat = b + 1 - a by omega, rngL_nat]
  rw [lcL_mapT (e := fun b : Nat => .int (b : Nat)) (fun n => pairD (liesZ w n)) fun n hn => by
    simp! [opIx_wv0, r_lies_by_ok k.w1 k.w2]
    rfl]
  rw [show (List.range' a (b + 1 - a)).map (fun n => pairD (liesZ w n)) = ((List.range' a (b + 1 - a)).map (liesZ w)).map pairD by rw [List.map_map]; rfl]
  simp! [srtB_pairs (ps := (List.range' a (b + 1 - a)).map (liesZ w)) (by rw [List.length_map, List.length_range']; omega), srtD_pairs]
  rfl
def areaD (a b c d : Int) : PyData := .tuple [.int a, .int b, .int c, .int d]
theorem r_is_area_ok {w : Nat} {a b c d : Int} {bs : List Nat} (k : Wv w bs) (a0 : 0 ≤ a) (ab : a ≤ b) (c0 : 0 ≤ c) (cd : c ≤ d) (dw : d < w) : r_is_area [.d (wvD w bs), .d (areaD a b c d)] = .ok (.d (.bool true), none) := by
  have e0 : isLong (areaD a b c d) 4 4 = true := rfl
  have s1 : sliD (areaD a b c d) none (some 2) = some (.d (.tuple ([a, b].map .int))) := rfl
  have s2 : sliD (areaD a b c d) (some 2) none = some (.d (.tuple ([c, d].map .int))) := rfl
  have mp : ∀ p q : Int, [PyData.int p, PyData.int q] = [p, q].map .int := fun p q => rfl
  have e1 : ∀ x ∈ [a, b], isFrom (.int x) 0 = true := fun x hx => isFrom_t (by simp at hx; omega)
  have e2 : ∀ x ∈ [c, d], isWithin (.int x) 0 ((w : Nat) - 1) = true := fun x hx => isWithin_t (by simp at hx; omega) (by simp at hx; omega)
  have i0 : opIx (areaD a b c d) (.int 0) = some (.d (.int a)) := rfl
  have i1 : opIx (areaD a b c d) (.int 1) = some (.d (.int b)) := rfl
  have i2 : opIx (areaD a b c d) (.int 2) = some (.d (.int c)) := rfl
  have i3 : opIx (areaD a b c d) (.int 3) = some (.d (.int d)) := rfl
  simp! [r_is_area, g_is_area, r_is_long_eq, e0, s1, s2]
  rw [mp a b, lcL_mapT (e := fun x : Int => .int x) (fun _ => .bool true) fun x hx => by
    simp! [r_is_from_eq, e1 x hx]]
  simp! [s2, opIx_wv0]
  rw [mp c d, lcL_mapT (e := fun x : Int => .int x) (fun _ => .bool true) fun x hx => by
    simp! [r_is_within_eq, e2 x hx, opIx_wv0]]
  simp! [ab, cd, i0, i1, i2, i3]
/-! ### runs -/
def runStep (acc : List (Int × Int)) (x : Int) : List (Int × Int) := match acc.getLast? with
  | some q => if q.2 = x - 1 then acc.dropLast ++ [(q.1, x)] else acc ++ [(x, x)]
  | none => [(x, x)]
def runs (xs : List Int) : List (Int × Int) := xs.foldl runStep []
theorem runStep_nil (x : Int) : runStep [] x = [(x, x)] := rfl
theorem runStep_snoc (acc : List (Int × Int)) (q : Int × Int) (x : Int) : runStep (acc ++ [q]) x = if q.2 = x - 1 then acc ++ [(q.1, x)] else acc ++ [q] ++ [(x, x)] := by
  unfold runStep
  simp
theorem runs_snoc (xs : List Int) (x : Int) : runs (xs ++ [x]) = runStep (runs xs) x := by
  unfold runs
  rw [List.foldl_append]
  rfl
theorem runs_len (xs : List Int) : (runs xs).length ≤ xs.length := by
  have : ∀ n, ∀ ys : List Int, ys = xs.take n → (runs ys).length ≤ ys.length := by
    intro n
    induction n with
    | zero => rintro ys rfl; simp [runs]
    | succ n ih =>
      rintro ys rfl
      by_cases h : n < xs.length
      · rw [List.take_succ_eq_append_getElem h, runs_snoc]
        have q := ih _ rfl
        rcases List.eq_nil_or_concat (runs (xs.take n)) with e | ⟨acc, l, e⟩
        · rw [e, runStep_nil]; simp; omega
        · rw [List.concat_eq_append] at e
          rw [e] at q ⊢
          rw [runStep_snoc]
          split <;> simp at q ⊢ <;> omega
      · rw [List.take_of_length_le (by omega)]
        have q := ih _ rfl
        rwa [List.take_of_length_le (by omega)] at q
  simpa using this xs.length xs (by simp)
theorem pair_ok {p : Int × Int} (h : (-(10 ^ 200) < p.1 ∧ p.1 < 10 ^ 200) ∧ -(10 ^ 200) < p.2 ∧ p.2 < 10 ^ 200) : OkN 3 1 (pairD p) :=
  okN_tup (okNs_cons (okN_int h.1.1 h.1.2) (okNs_cons (okN_int h.2.1 h.2.2) okNs_nil))
theorem runs_bnd {B : Int} (b0 : 0 ≤ B) : ∀ n (xs : List Int), (∀ x ∈ xs, 0 ≤ x ∧ x < B) → ∀ q ∈ runs (xs.take n), (0 ≤ q.1 ∧ q.1 < B) ∧ 0 ≤ q.2 ∧ q.2 < B
  | 0, xs, h => by simp [runs]
  | n + 1, xs, h => by
    by_cases hn : n < xs.length
    · have ih := runs_bnd b0 n xs h
      have hx := h xs[n] (List.getElem_mem _)
      rw [List.take_succ_eq_append_getElem hn, runs_snoc]
      rcases List.eq_nil_or_concat (runs (xs.take n)) with e | ⟨acc, l, e⟩
      · rw [e, runStep_nil]
        intro q hq
        rw [List.mem_singleton.mp hq]
        exact ⟨hx, hx⟩
      · rw [List.concat_eq_append] at e
        rw [e] at ih ⊢
        rw [runStep_snoc]
        have hl := ih l (by simp)
        intro q hq
        split at hq
        · rcases List.mem_append.mp hq with m | m
          · exact ih q (by simp [m])
          · rw [List.mem_singleton.mp m]
            exact ⟨hl.1, hx⟩
        · rcases List.mem_append.mp hq with m | m
          · exact ih q m
          · rw [List.mem_singleton.mp m]
            exact ⟨hx, hx⟩
    · rw [List.take_of_length_le (by omega)]
      have ih := runs_bnd b0 n xs h
      rwa [List.take_of_length_le (by omega)] at ih
theorem r_runs_of_ok {xs : List Int} (hb : ∀ x ∈ xs, 0 ≤ x ∧ x < 10 ^ 20) (hl : xs.length ≤ 100000) : r_runs_of [.d (.list (xs.map .int))] = .ok (.d (.tuple ((runs xs).map pairD)), none) := by
  simp! [r_runs_of, g_runs_of]
  apply raiseIf_sat_eq
  simp only [sat_bind_iff]
  refine forL_map (fun i r => ∃ (x2 : Option Sl), r = [some (.d (.list (xs.map .int))), some (.l (.list ((runs (xs.take i)).map pairD))), x2]) ⟨none, by simp [runs]⟩ ?_ ?_
  · rintro i x r hx ⟨x2, rfl⟩
    obtain ⟨hi, ex⟩ := List.getElem?_eq_some_iff.mp hx
    have bnd := runs_bnd (B := 10 ^ 20) (by decide) i xs hb
    have len : (runs (xs.take i)).length ≤ 100000 := Nat.le_trans (runs_len _) (Nat.le_trans (List.length_take_le _ _) (by omega))
    rw [List.take_succ_eq_append_getElem hi, runs_snoc, ex]
    rcases List.eq_nil_or_concat (runs (xs.take i)) with e | ⟨acc, l, e⟩
    · rw [e]
      simp! [opNe_nil, runStep_nil]
      exact ⟨_, rfl⟩
    · rw [List.concat_eq_append] at e
      rw [e] at bnd len ⊢
      have ok : okE (.list ((acc ++ [l]).map pairD)) = true := (okN_list (okNs_map 100000 (fun q hq => pair_ok (by have := bnd q hq; omega)) len)).okE (by decide)
      have ne : (acc ++ [l]).map pairD ≠ [] := by simp
      rw [List.length_append, List.length_singleton] at len
      rw [runStep_snoc]
      have o := opNe_ne ok ne
      have al : atD ((acc ++ [l]).map pairD) (-1) = some (pairD l) := by rw [List.map_append]; exact atD_last _ _
      have i0 : opIx (pairD l) (.int 0) = some (.d (.int l.1)) := rfl
      have i1 : opIx (pairD l) (.int 1) = some (.d (.int l.2)) := rfl
      by_cases c : l.2 = x - 1
      · rw [if_pos c]
        have st : ((acc ++ [l]).map pairD).set acc.length (.tuple [.int l.1, .int x]) = (acc ++ [(l.1, x)]).map pairD := by
          rw [List.map_append, List.map_append]
          have := set_last (acc.map pairD) (pairD l) (.tuple [.int l.1, .int x])
          rwa [List.length_map] at this
        simp! [o, al, i0, i1, c, ixN_last, putK4_eq, st]
        exact ⟨_, rfl⟩
      · rw [if_neg c]
        simp! [o, al, i0, i1, c]
        exact ⟨some (.d (.int x)), by simp [pairD]⟩
  · rintro r ⟨x2, rfl⟩
    rw [List.take_length]
    simp! []
def inA (w : Nat) (a b c d : Int) (n : Nat) : Bool := decide (a ≤ (liesZ w n).1) && decide ((liesZ w n).1 ≤ b) && (decide (c ≤ (liesZ w n).2) && decide ((liesZ w n).2 ≤ d))
def natZ (ns : List Nat) : List Int := ns.map fun n : Nat => (n : Int)
def spansL (w : Nat) (a b c d : Int) (m : Nat) : List Int := natZ ((List.range m).filter (inA w a b c d))
theorem spansL_bnd {w m : Nat} {a b c d : Int} (hm : m ≤ 400) : (∀ x ∈ spansL w a b c d m, 0 ≤ x ∧ x < 10 ^ 20) ∧ (spansL w a b c d m).length ≤ 100000 := by
  constructor
  · intro x hx
    obtain ⟨n, hn, rfl⟩ := List.mem_map.mp hx
    have := List.mem_range.mp (List.mem_filter.mp hn).1
    omega
  · unfold spansL natZ
    rw [List.length_map]
    have := List.length_filter_le (inA w a b c d) (List.range m)
    rw [List.length_range] at this
    omega
theorem r_spans_in_ok {w : Nat} {a b c d : Int} {bs : List Nat} (k : Wv w bs) (a0 : 0 ≤ a) (ab : a ≤ b) (c0 : 0 ≤ c) (cd : c ≤ d) (dw : d < w) : r_spans_in [.d (wvD w bs), .d (areaD a b c d)] = .ok (.d (.tuple ((runs (spansL w a b c d bs.sum)).map pairD)), none) := by
  have hs := k.sum.1
  have ar := r_is_area_ok k a0 ab c0 cd dw
  unfold areaD at ar ⊢
  simp! [r_spans_in, g_spans_in, r_need_weave_ok k, ar, r_many_places_ok]
  apply raiseIf_sat_eq
  simp only [sat_bind_iff]
  refine forL_rng (fun i r => ∃ (x7 x8 x9 : Option Sl), r = [some (.d (wvD w bs)), some (.d (.tuple [.int a, .int b, .int c, .int d])), some (.d (.int a)), some (.d (.int b)), some (.d (.int c)), some (.d (.int d)), some (.l (.list ((spansL w a b c d i).map .int))), x7, x8, x9]) ⟨_, _, _, rfl⟩ ?_ ?_
  · rintro i r hi ⟨x7, x8, x9, rfl⟩
    have e1 : ∀ p : Bool, inA w a b c d i = p → spansL w a b c d (i + 1) = spansL w a b c d i ++ if p = true then [(i : Int)] else [] := fun p h => by
      unfold spansL natZ
      rw [List.range_succ, List.filter_append, List.map_append]
      cases p <;> simp [h]
    have len := (spansL_bnd (w := w) (a := a) (b := b) (c := c) (d := d) (m := i) (by omega)).2
    simp! [opIx_wv0, r_lies_by_ok k.w1 k.w2, spot_pair, pairD]
    by_cases h1 : a ≤ (liesZ w i).1
    · by_cases h2 : (liesZ w i).1 ≤ b
      · by_cases h3 : c ≤ (liesZ w i).2
        · by_cases h4 : (liesZ w i).2 ≤ d
          · have e := e1 true (by unfold inA; rw [decide_eq_true h1, decide_eq_true h2, decide_eq_true h3, decide_eq_true h4]; rfl)
            simp! [h1, h2, h3, h4]
            exact ⟨_, _, _, by rw [e]; simp; exact ⟨rfl, rfl, rfl⟩⟩
          · have e := e1 false (by unfold inA; rw [decide_eq_false h4]; simp)
            simp! [h1, h2, h3, h4]
            exact ⟨_, _, _, by rw [e]; simp; exact ⟨rfl, rfl, rfl⟩⟩
        · have e := e1 false (by unfold inA; rw [decide_eq_false h3]; simp)
          simp! [h1, h2, h3]
          exact ⟨_, _, _, by rw [e]; simp; exact ⟨rfl, rfl, rfl⟩⟩
      · have e := e1 false (by unfold inA; rw [decide_eq_false h2]; simp)
        simp! [h1, h2]
        exact ⟨_, _, _, by rw [e]; simp; exact ⟨rfl, rfl, rfl⟩⟩
    · have e := e1 false (by unfold inA; rw [decide_eq_false h1]; simp)
      simp! [h1]
      exact ⟨_, _, _, by rw [e]; simp; exact ⟨rfl, rfl, rfl⟩⟩
  · rintro r ⟨x7, x8, x9, rfl⟩
    obtain ⟨g1, g2⟩ := spansL_bnd (w := w) (a := a) (b := b) (c := c) (d := d) (m := bs.sum) (by omega)
    simp! [r_runs_of_ok g1 g2]
/-- all numbers of a run -/
def expR (q : Int × Int) : List Int := (List.range (q.2 + 1 - q.1).toNat).map fun i : Nat => q.1 + (i : Int)
theorem expR_one (x : Int) : expR (x, x) = [x] := by
  unfold expR
  rw [show (x + 1 - x).toNat = 1 by omega]
  simp
theorem expR_more {q : Int × Int} {x : Int} (h : q.1 ≤ q.2) (e : q.2 = x - 1) : expR (q.1, x) = expR q ++ [x] := by
  unfold expR
  show (List.range (x + 1 - q.1).toNat).map _ = _
  rw [show (x + 1 - q.1).toNat = (q.2 + 1 - q.1).toNat + 1 by omega, List.range_succ, List.map_append]
  congr 1
  simp
  omega
theorem runs_exp : ∀ (n : Nat) (xs : List Int), (runs (xs.take n)).flatMap expR = xs.take n ∧ ∀ q ∈ runs (xs.take n), q.1 ≤ q.2
  | 0, xs => by simp [runs]
  | n + 1, xs => by
    by_cases hn : n < xs.length
    · obtain ⟨h1, h2⟩ := runs_exp n xs
      rw [List.take_succ_eq_append_getElem hn, runs_snoc]
      rcases List.eq_nil_or_concat (runs (xs.take n)) with e | ⟨acc, l, e⟩
      · rw [e] at h1 ⊢
        rw [runStep_nil]
        have : xs.take n = [] := by simpa using h1.symm
        rw [this]
        simp [expR_one]
      · rw [List.concat_eq_append] at e
        rw [e] at h1 h2 ⊢
        have hl := h2 l (by simp)
        rw [runStep_snoc]
        split
        · rename_i c
          constructor
          · rw [← h1, List.flatMap_append, List.flatMap_append, List.flatMap_singleton, List.flatMap_singleton, expR_more hl c, List.append_assoc]
          · intro q hq
            rcases List.mem_append.mp hq with m | m
            · exact h2 q (by simp [m])
            · rw [List.mem_singleton.mp m]
              show l.1 ≤ xs[n]
              omega
        · constructor
          · rw [List.flatMap_append, h1, List.flatMap_singleton, expR_one]
          · intro q hq
            rcases List.mem_append.mp hq with m | m
            · exact h2 q m
            · rw [List.mem_singleton.mp m]
              exact Int.le_refl _
    · have := runs_exp n xs
      rw [List.take_of_length_le (by omega)] at this ⊢
      exact this
theorem runs_flat (xs : List Int) : (runs xs).flatMap expR = xs := by simpa using (runs_exp xs.length xs).1
theorem runs_le {xs : List Int} {q : Int × Int} (h : q ∈ runs xs) : q.1 ≤ q.2 := (runs_exp xs.length xs).2 q (by simpa using h)
theorem runs_range : ∀ n, runs (natZ (List.range (n + 1))) = [(0, (n : Int))]
  | 0 => rfl
  | n + 1 => by
    have ih := runs_range n
    unfold natZ at ih ⊢
    rw [List.range_succ, List.map_append, List.map_singleton, runs_snoc, ih]
    have := runStep_snoc [] (0, (n : Int)) ((n + 1 : Nat) : Int)
    rw [List.nil_append] at this
    rw [this, if_pos (by show (n : Int) = _; omega)]
    rfl

end DL
set_option Elab.async false
set_option linter.all false
set_option autoImplicit false
set_option maxRecDepth 100000
set_option maxHeartbeats 4000000
namespace DL
open PySem L2 Out
local macro_rules | `(tactic| simp! [$ls,*]) => `(tactic| simp (maxSteps := 4000000) (disch := first | assumption | omega | (show nfnB _ = true; refine rfl2 ?_; with_unfolding_all rfl)) only [
  Out.bind_ok, Out.bind2_ok, Out.opt_some, Out.need_true, need_nf, need_false, bind_bad, bind2_bad, noX_bad, raiseIf_bad, onee_true, lenOk_t, lenLt_t, natB_t, posB_t, rngB_t, dmB_t, powB_t, repTB_t, repLB_t, Out.bind_exc, Out.bind2_exc, sat_raise_iff, Out.sat_ok, raiseIf_ok, noX_ok,
  qVar_eq, varK_d, varK_l, varK_b, qC_eq, fzK_d, fzK_n, fzK_v, fzV_l, fzV_d, qFz_eq, opK3_eq, opK2b_eq, opK2a_eq, opK2_eq, opK1_eq, qOp_eq, slotD_eq, slotO_eq, rd_d, rd_n, rd_v, it_d, it_l, it_b,
  opAdd_int, opAdd_str, opAdd_tup, opAdd_lst, opSub_int, opMul_int, opMod_int, opDiv_int, opPow_int, opRepT_tup, opRepP_tup, repK3_eq, repK2_eq, repK1_eq, qRep_eq, hg_true, mulOk_1, mulOk_2, mulOk_3,
  opLt_int, opLe_int, opGt_int, opGe_int, opEq_int, opNe_int, opEq_str, opNe_str, opEq_bool, opNe_bool, opEq_self, opNe_self, chK3_eq, chK2c_t, chK2c_f, chK2a_eq, chK2_eq, chK1_eq, qCh_eq, teK_eq, qTe_eq, tandK_t, tandK_f, torK_t, torK_f, tnotK_eq, qtAnd_eq, qtOr_eq, qtNot_eq,
  vandK_t, vandK_f, vorK_t, vorK_f, vnotK_eq, qAnd_eq, qOr_eq, qNot_eq, negK_eq, qNeg_eq, ifEK_t, ifEK_f, qIf_eq, opIx_l, opIx_t, opIx_s, oNone_eq, osK_eq, oSome_eq, sliD_l, sliD_t, sliD_s, sliK4_eq, sliK3_eq, sliK2_eq, sliK1_eq, qSli_eq, revD_l, revD_t, revK2_eq, revK_eq, qRev_eq,
  fNilQ_eq, fcK2_eq, fcK1_eq, fConsQ_eq, aNilQ_eq, acK2_eq, acK1_d, acK1_v, aConsQ_eq, mcK1_eq, mConsQ_eq, tupK_eq, qTup_eq, lstK_eq, qLst_eq, rdC_eq, rdAll_nil, rdAll_cons, biK2_eq, biK_eq, qB_eq, biLen_l, biLen_t, biTuple_l, biTuple_t, biList_l, biList_t, biAll_eq, biAny_eq, biSum_l, biSum_t, biMax2_eq, biMin2_eq, biDivmod_eq, biRepr_eq, isiK2_eq, nfnB_int, nfnB_str, nfnB_bool, nfnB_none, nfnB_tup, nfnB_lst, isiK_eq, qIsi_eq,
  opShl_int, opShr_int, opAndI_int, opOrI_int, opLt_tup, opLe_tup, opGt_tup, opGe_tup, rng_len, Int.toNat_natCast, biDict_l, pairsD_map, biMinL_eq, biMaxL_eq, foldI_c, biMaxD_l, biMaxD_t, biMinD_l, biMinD_t, extK_c, maxD_ii,  biSortedR_l, boolsD_mapf, boolsD_n, boolsD_c, intsD_n, intsD_c, intsD_mapf, boolsD_map, intsD_map, all_tt, biInt_i, biInt_b, biAbs_eq, opIn_l, opIn_t, opNin_l, opNin_t, iZpK_l, iZpK_t, iZpK_tl, iZpK_lt, qiZip_eq, agSl_l, agSl_b, biSorted_l, biSorted_t, opIxD_eq, qDNew_eq, dGet_nil, dicS_l, dicS_b, dpK3_eq, dpK2b_eq, dpK2_eq, dpK1_eq, dpK0_eq, qsDput_eq, dicA_l, dicA_b, dicA_d, inD3_eq, inD2_eq, inD1_eq, qInD_eq, setS_ints, setS_intsT, popK2_eq, popK1_eq, qPop_eq, popA4_eq, popA3_eq, popA2_eq, popA1_eq, popA0_eq, qPopAt_eq, extK3_eq, extK2_eq, extK1_eq, qsExt_eq, fnN_eq, qCallV_eq, cvK_t, agB_t, agK2c_eq, agK2b_eq, agK2_eq, agK1c_eq, agK1b_eq, agK1_eq, agK0_eq, qsAgP_eq, opAddI_int,
  isIntD, isBoolD, isTupD, isStrD, isListD, isDictD,
  lzK_l, qLz_eq, tr1K_eq, qTr1_eq, stpK5_eq, stpK4_l, stpK3_eq, stpK2_eq, stpK1_eq, qStp_eq, gtK3_eq, gtK2_eq, gtK1_eq, gtK0_eq, qGet_eq, idK5_eq, idK4_l, idK3_c, isLstD_l, idK2_eq, idK1_eq, qIdx_eq, cnK4_l, cnK3_c, cnK2_eq, cnK1_eq, qCnt_eq, 
  opNe0_l, opNe0_t, opEq0_l, opEq0_t, forDK_eq, qsForD_eq, lcDK_eq, isK2_eq, isK_eq, qIs_eq, isT_bool, qLcO_eq, lcOK_l, lcOK_d, lcO3_n, lcO2_eq, qLcD_eq, biSortedK_eq, dis3_eq, dis2_eq, dis1_eq, qDis_eq, kB_int, kB_str, tpB_tup,
  qsNext_eq, qsBrk_eq, qsCnt_eq, seqK_nx, seqK_rt, seqK_bk, seqK_ct, qsSeq_eq, dropK_eq, qsDrop_eq, retK_d, retK_n, retK_v, retV_l, retV_d, qsRet_eq, qsRetN_eq, ifSK_t, ifSK_f, qsIf_eq, setK_d, setK_n, qsSet_eq, tName_eq, tNil_eq, tCons_eq, tTupT_eq, nxK_eq, asgK_eq, qsAsg_eq, putQ_nil, putQ_d, putQ_n, parK_eq, qsPar_eq,
  appK0_eq, qsApp_eq, appK_eq, appK2_l, appK2_b, putK0_eq, putK1_eq, qsPut_eq, putK2_eq, putK3_l, putK3_b, putK4_eq, augK3_eq, augK1b_eq, augK1_eq, augK0_eq, qsAug_eq, iSeqK_l, iSeqK_t, qiSeq_eq, iR1K_eq, iR2K_eq, qiR1_eq, qiR2_eq, iR3K_eq, qiR3_eq, lrB_t, lr1K_eq, qLr1_eq, lr2K2_eq, lr2K_eq, qLr2_eq, iEnK_l, iEnK_t, qiEn_eq, lpK_nx, lpK_ct, lpK_bk, lpK_rt, forK_eq, forL_nil, forL_cons, qsFor_eq, qsWhile_eq,
  lcE3_eq, lcE2_t, lcE2_f, lcE1_eq, lcE_eq, lcK2_eq, lcK1_eq, qLc_eq, scK1_eq, scK3_eq, scK4_eq, qSc_eq, intQK_eq, qIntQ_eq, blt_t, qtYes_eq, lcL_nil, tOwn_eq, tOwnK_n, tOwnK_d, callK3_eq, callK2_eq, callK1_eq, qCall_eq, aRevK_eq, aRevQ_eq, List.reverse_cons, List.reverse_nil, endK_nx, endK_rt, endK2_eq, runF_eq, exitB_nil, exitB_d, exitB_b, argOf_d, argOf_v', argV_l, argV_b, argsOf_nil, argsOf_cons, argsC_eq, setC_eq, setO_l, setO_b, putB_n, putB_s, putF_s, putF_n, firstV_nil, firstV_v, firstV_d, resV_d, resV_l,
  oneB_nil, oneB_b, oneB_d, noB_nil, noB_b, noB_d, wipeD_nil, wipeD_cons, keepD_eq, keepO_d, keepO_n, backD_nil, backD_cons, entD_eq, ixN_pos, Lp_nx, Lp_ct, Lp_bk, Lp_rt, Option.map_some,
  at0, at1, at2, at3, at4, List.map_cons, List.map_nil, List.length_cons, List.length_nil, List.length_map, List.length_append, List.length_range, List.replicate_succ, List.replicate_zero, List.cons_append, List.nil_append, List.flatten_cons, List.flatten_nil, List.append_nil, List.getElem?_cons_zero, List.getElem?_cons_succ, List.set_cons_zero, List.set_cons_succ, List.all_cons, List.all_nil, List.any_cons, List.any_nil, id_eq,
  Nat.reduceAdd, Nat.reduceSub, Nat.reduceLeDiff, Nat.reduceLT, Nat.reduceEqDiff, Nat.reduceMul, Nat.reduceBEq, Int.reducePow, Int.reduceNeg, Int.reduceLT, Int.reduceLE, Int.reduceToNat, Int.reduceAdd, Int.reduceSub, Int.reduceMul, Int.reduceMod, Int.reduceDiv, Int.reduceEq, Nat.zero_add, Nat.add_zero, Nat.sub_self, Nat.add_one_sub_one, Nat.sub_zero, and_true, true_and, and_false, false_and, and_self, or_true, true_or, or_false, false_or, not_true_eq_false, not_false_eq_true, ne_eq, decide_true, decide_false, decide_eq_true_eq, Bool.not_true, Bool.not_false, Bool.and_true, Bool.true_and, Bool.and_false, Bool.false_and, Bool.or_true, Bool.true_or, Bool.or_false, Bool.false_or, Bool.not_not, eq_self, Bool.false_eq_true, ↓reduceIte, if_true, if_false, $ls,*])
def g_law_weave : FS :=
    (qsSeq (qsPar [1, 2] (mConsQ (qOp opAdd (qC (.int 1)) (qCall 2 r_law_draw (aConsQ (qVar 0) (aConsQ (qFz (qC (.int 12))) aNilQ)))) (mConsQ (qLst fNilQ) aNilQ)))
    (qsSeq (qsFor (qiR1 (fConsQ (qOp opAdd (qC (.int 1)) (qCall 2 r_law_draw (aConsQ (qVar 0) (aConsQ (qFz (qC (.int 6))) aNilQ)))) fNilQ)) (tName 3)
    (qsApp 2 (fConsQ (qOp opAdd (qC (.int 1)) (qCall 2 r_law_draw (aConsQ (qVar 0) (aConsQ (qFz (qCall 2 r_law_pick (aConsQ (qVar 0) (aConsQ (qFz (qLst (fConsQ (qC (.int 4)) (fConsQ (qC (.int 20)) (fConsQ (qC (.int 60)) fNilQ))))) aNilQ)))) aNilQ)))) fNilQ)))
    (qsRet (qTup (fConsQ (qVar 1) (fConsQ (qB biTuple (aConsQ (qVar 2) aNilQ)) fNilQ))))))
def r_law_weave : Run := runF 4 g_law_weave
theorem r_law_weave_ok {p : PyData} (hp : Pen p) : ∃ (w : Nat) (bs : List Nat) (p' : PyData), r_law_weave [.b p] = .ok (.d (wvD w bs), some p') ∧ Pen p' ∧ Wv w bs := by
  obtain ⟨a, p1, e1, hp1, a0, a1⟩ := r_law_draw_ok (m := 12) hp (by decide) (by decide)
  obtain ⟨c, p2, e2, hp2, c0, c1⟩ := r_law_draw_ok (m := 6) hp1 (by decide) (by decide)
  obtain ⟨w, hw⟩ : ∃ w : Nat, ((w : Nat) : Int) = 1 + a := ⟨(1 + a).toNat, by omega⟩
  obtain ⟨n, hn⟩ : ∃ n : Nat, ((n : Nat) : Int) = 1 + c := ⟨(1 + c).toNat, by omega⟩
  suffices h : (r_law_weave [.b p]).sat fun z => ∃ (bs : List Nat) (p' : PyData), z = (.d (wvD w bs), some p') ∧ Pen p' ∧ Wv w bs by
    obtain ⟨z, e, bs, p', rfl, h1, h2⟩ := h
    exact ⟨w, bs, p', e, h1, h2⟩
  simp! [r_law_weave, g_law_weave, e1, e2]
  rw [← hw, ← hn]
  simp only [sat_raise_iff, sat_bind_iff]
  rw [show ((n : Int)).toNat = n by omega]
  refine forL_rng (fun i r => ∃ (bs : List Nat) (p' : PyData) (x3 : Option Sl), r = [some (.b p'), some (.d (.int (w : Nat))), some (.l (.list (bs.map fun b : Nat => .int (b : Nat)))), x3] ∧ Pen p' ∧ bs.length = i ∧ ∀ b ∈ bs, 1 ≤ b ∧ b ≤ 60) ⟨[], p2, none, rfl, hp2, rfl, fun b h => nomatch h⟩ ?_ ?_
  · rintro i r hi ⟨bs, p', x3, rfl, hp', hl, hb⟩
    obtain ⟨x, p3, e3, hp3, hx⟩ := r_law_pick_ok hp' (xs := [.int 4, .int 20, .int 60]) (by decide) (by decide)
    obtain ⟨m, hm, m0, m1⟩ : ∃ m : Int, x = .int m ∧ 0 < m ∧ m ≤ 60 := by
      simp only [List.mem_cons, List.not_mem_nil, or_false] at hx
      rcases hx with e | e | e
      · exact ⟨_, e, by decide, by decide⟩
      · exact ⟨_, e, by decide, by decide⟩
      · exact ⟨_, e, by decide, by decide⟩
    subst hm
    obtain ⟨d, p4, e4, hp4, d0, d1⟩ := r_law_draw_ok (m := m) hp3 m0 (by omega)
    obtain ⟨b, hbd⟩ : ∃ b : Nat, ((b : Nat) : Int) = 1 + d := ⟨(1 + d).toNat, by omega⟩
    simp! [e3, e4]
    refine ⟨bs ++ [b], p4, _, by rw [List.map_append, List.map_singleton, hbd], hp4, by rw [List.length_append, hl]; rfl, fun y hy => ?_⟩
    rcases List.mem_append.mp hy with h | h
    · exact hb y h
    · rw [List.mem_singleton.mp h]; omega
  · rintro r ⟨bs, p', x3, rfl, hp', hl, hb⟩
    simp! []
    exact ⟨bs, p', rfl, hp', by omega, by omega, by omega, by omega, hb⟩

end DL
set_option Elab.async false
set_option linter.all false
set_option autoImplicit false
set_option maxRecDepth 100000
set_option maxHeartbeats 4000000
namespace DL
open PySem L2 Out
local macro_rules | `(tactic| simp! [$ls,*]) => `(tactic| simp (maxSteps := 4000000) (disch := first | assumption | omega | (show nfnB _ = true; refine rfl2 ?_; with_unfolding_all rfl)) only [
  Out.bind_ok, Out.bind2_ok, Out.opt_some, Out.need_true, need_nf, need_false, bind_bad, bind2_bad, noX_bad, raiseIf_bad, onee_true, lenOk_t, lenLt_t, natB_t, posB_t, rngB_t, dmB_t, powB_t, repTB_t, repLB_t, Out.bind_exc, Out.bind2_exc, sat_raise_iff, Out.sat_ok, raiseIf_ok, noX_ok,
  qVar_eq, varK_d, varK_l, varK_b, qC_eq, fzK_d, fzK_n, fzK_v, fzV_l, fzV_d, qFz_eq, opK3_eq, opK2b_eq, opK2a_eq, opK2_eq, opK1_eq, qOp_eq, slotD_eq, slotO_eq, rd_d, rd_n, rd_v, it_d, it_l, it_b,
  opAdd_int, opAdd_str, opAdd_tup, opAdd_lst, opSub_int, opMul_int, opMod_int, opDiv_int, opPow_int, opRepT_tup, opRepP_tup, repK3_eq, repK2_eq, repK1_eq, qRep_eq, hg_true, mulOk_1, mulOk_2, mulOk_3,
  opLt_int, opLe_int, opGt_int, opGe_int, opEq_int, opNe_int, opEq_str, opNe_str, opEq_bool, opNe_bool, opEq_self, opNe_self, chK3_eq, chK2c_t, chK2c_f, chK2a_eq, chK2_eq, chK1_eq, qCh_eq, teK_eq, qTe_eq, tandK_t, tandK_f, torK_t, torK_f, tnotK_eq, qtAnd_eq, qtOr_eq, qtNot_eq,
  vandK_t, vandK_f, vorK_t, vorK_f, vnotK_eq, qAnd_eq, qOr_eq, qNot_eq, negK_eq, qNeg_eq, ifEK_t, ifEK_f, qIf_eq, opIx_l, opIx_t, opIx_s, oNone_eq, osK_eq, oSome_eq, sliD_l, sliD_t, sliD_s, sliK4_eq, sliK3_eq, sliK2_eq, sliK1_eq, qSli_eq, revD_l, revD_t, revK2_eq, revK_eq, qRev_eq,
  fNilQ_eq, fcK2_eq, fcK1_eq, fConsQ_eq, aNilQ_eq, acK2_eq, acK1_d, acK1_v, aConsQ_eq, mcK1_eq, mConsQ_eq, tupK_eq, qTup_eq, lstK_eq, qLst_eq, rdC_eq, rdAll_nil, rdAll_cons, biK2_eq, biK_eq, qB_eq, biLen_l, biLen_t, biTuple_l, biTuple_t, biList_l, biList_t, biAll_eq, biAny_eq, biSum_l, biSum_t, biMax2_eq, biMin2_eq, biDivmod_eq, biRepr_eq, isiK2_eq, nfnB_int, nfnB_str, nfnB_bool, nfnB_none, nfnB_tup, nfnB_lst, isiK_eq, qIsi_eq,
  opShl_int, opShr_int, opAndI_int, opOrI_int, opLt_tup, opLe_tup, opGt_tup, opGe_tup, rng_len, Int.toNat_natCast, biDict_l, pairsD_map, biMinL_eq, biMaxL_eq, foldI_c, biMaxD_l, biMaxD_t, biMinD_l, biMinD_t, extK_c, maxD_ii,  biSortedR_l, boolsD_mapf, boolsD_n, boolsD_c, intsD_n, intsD_c, intsD_mapf, boolsD_map, intsD_map, all_tt, biInt_i, biInt_b, biAbs_eq, opIn_l, opIn_t, opNin_l, opNin_t, iZpK_l, iZpK_t, iZpK_tl, iZpK_lt, qiZip_eq, agSl_l, agSl_b, biSorted_l, biSorted_t, opIxD_eq, qDNew_eq, dGet_nil, dicS_l, dicS_b, dpK3_eq, dpK2b_eq, dpK2_eq, dpK1_eq, dpK0_eq, qsDput_eq, dicA_l, dicA_b, dicA_d, inD3_eq, inD2_eq, inD1_eq, qInD_eq, setS_ints, setS_intsT, popK2_eq, popK1_eq, qPop_eq, popA4_eq, popA3_eq, popA2_eq, popA1_eq, popA0_eq, qPopAt_eq, extK3_eq, extK2_eq, extK1_eq, qsExt_eq, fnN_eq, qCallV_eq, cvK_t, agB_t, agK2c_eq, agK2b_eq, agK2_eq, agK1c_eq, agK1b_eq, agK1_eq, agK0_eq, qsAgP_eq, opAddI_int,
  isIntD, isBoolD, isTupD, isStrD, isListD, isDictD,
  lzK_l, qLz_eq, tr1K_eq, qTr1_eq, stpK5_eq, stpK4_l, stpK3_eq, stpK2_eq, stpK1_eq, qStp_eq, gtK3_eq, gtK2_eq, gtK1_eq, gtK0_eq, qGet_eq, idK5_eq, idK4_l, idK3_c, isLstD_l, idK2_eq, idK1_eq, qIdx_eq, cnK4_l, cnK3_c, cnK2_eq, cnK1_eq, qCnt_eq, 
  opNe0_l, opNe0_t, opEq0_l, opEq0_t, forDK_eq, qsForD_eq, lcDK_eq, isK2_eq, isK_eq, qIs_eq, isT_bool, qLcO_eq, lcOK_l, lcOK_d, lcO3_n, lcO2_eq, qLcD_eq, biSortedK_eq, dis3_eq, dis2_eq, dis1_eq, qDis_eq, kB_int, kB_str, tpB_tup,
  qsNext_eq, qsBrk_eq, qsCnt_eq, seqK_nx, seqK_rt, seqK_bk, seqK_ct, qsSeq_eq, dropK_eq, qsDrop_eq, retK_d, retK_n, retK_v, retV_l, retV_d, qsRet_eq, qsRetN_eq, ifSK_t, ifSK_f, qsIf_eq, setK_d, setK_n, qsSet_eq, tName_eq, tNil_eq, tCons_eq, tTupT_eq, nxK_eq, asgK_eq, qsAsg_eq, putQ_nil, putQ_d, putQ_n, parK_eq, qsPar_eq,
  appK0_eq, qsApp_eq, appK_eq, appK2_l, appK2_b, putK0_eq, putK1_eq, qsPut_eq, putK2_eq, putK3_l, putK3_b, putK4_eq, augK3_eq, augK1b_eq, augK1_eq, augK0_eq, qsAug_eq, iSeqK_l, iSeqK_t, qiSeq_eq, iR1K_eq, iR2K_eq, qiR1_eq, qiR2_eq, iR3K_eq, qiR3_eq, lrB_t, lr1K_eq, qLr1_eq, lr2K2_eq, lr2K_eq, qLr2_eq, iEnK_l, iEnK_t, qiEn_eq, lpK_nx, lpK_ct, lpK_bk, lpK_rt, forK_eq, forL_nil, forL_cons, qsFor_eq, qsWhile_eq,
  lcE3_eq, lcE2_t, lcE2_f, lcE1_eq, lcE_eq, lcK2_eq, lcK1_eq, qLc_eq, scK1_eq, scK3_eq, scK4_eq, qSc_eq, intQK_eq, qIntQ_eq, blt_t, qtYes_eq, lcL_nil, tOwn_eq, tOwnK_n, tOwnK_d, callK3_eq, callK2_eq, callK1_eq, qCall_eq, aRevK_eq, aRevQ_eq, List.reverse_cons, List.reverse_nil, endK_nx, endK_rt, endK2_eq, runF_eq, exitB_nil, exitB_d, exitB_b, argOf_d, argOf_v', argV_l, argV_b, argsOf_nil, argsOf_cons, argsC_eq, setC_eq, setO_l, setO_b, putB_n, putB_s, putF_s, putF_n, firstV_nil, firstV_v, firstV_d, resV_d, resV_l,
  oneB_nil, oneB_b, oneB_d, noB_nil, noB_b, noB_d, wipeD_nil, wipeD_cons, keepD_eq, keepO_d, keepO_n, backD_nil, backD_cons, entD_eq, ixN_pos, Lp_nx, Lp_ct, Lp_bk, Lp_rt, Option.map_some,
  at0, at1, at2, at3, at4, List.map_cons, List.map_nil, List.length_cons, List.length_nil, List.length_map, List.length_append, List.length_range, List.replicate_succ, List.replicate_zero, List.cons_append, List.nil_append, List.flatten_cons, List.flatten_nil, List.append_nil, List.getElem?_cons_zero, List.getElem?_cons_succ, List.set_cons_zero, List.set_cons_succ, List.all_cons, List.all_nil, List.any_cons, List.any_nil, id_eq,
  Nat.reduceAdd, Nat.reduceSub, Nat.reduceLeDiff, Nat.reduceLT, Nat.reduceEqDiff, Nat.reduceMul, Nat.reduceBEq, Int.reducePow, Int.reduceNeg, Int.reduceLT, Int.reduceLE, Int.reduceToNat, Int.reduceAdd, Int.reduceSub, Int.reduceMul, Int.reduceMod, Int.reduceDiv, Int.reduceEq, Nat.zero_add, Nat.add_zero, Nat.sub_self, Nat.add_one_sub_one, Nat.sub_zero, and_true, true_and, and_false, false_and, and_self, or_true, true_or, or_false, false_or, not_true_eq_false, not_false_eq_true, ne_eq, decide_true, decide_false, decide_eq_true_eq, Bool.not_true, Bool.not_false, Bool.and_true, Bool.true_and, Bool.and_false, Bool.false_and, Bool.or_true, Bool.true_or, Bool.or_false, Bool.false_or, Bool.not_not, eq_self, Bool.false_eq_true, ↓reduceIte, if_true, if_false, $ls,*])
def g_ends_of : FS :=
    (qsSeq (qsIf (qtNot (qTe (qCall 3 r_is_within (aConsQ (qFz (qVar 0)) (aConsQ (qFz (qC (.int 1))) (aConsQ (qFz (qC (.int 12))) aNilQ))))))
    qsNever
    qsNext)
    (qsSeq (qsIf (qtNot (qTe (qCall 2 r_is_from (aConsQ (qFz (qVar 1)) (aConsQ (qFz (qC (.int 0))) aNilQ)))))
    qsNever
    qsNext)
    (qsSeq (qsIf (qtNot (qTe (qCall 2 r_is_from (aConsQ (qFz (qVar 2)) (aConsQ (qFz (qC (.int 1))) aNilQ)))))
    qsNever
    qsNext)
    (qsSeq (qsSet 3 (qOp opMul (qC (.int 2)) (qVar 0)))
    (qsRet (qB biTuple (aConsQ (qFz (qSc (qiR1 (fConsQ (qVar 3) fNilQ)) (tOwn 4) qtYes (qOp opIx (qCall 2 r_lies_by (aConsQ (qFz (qVar 0)) (aConsQ (qFz (qOp opMod (qOp opAdd (qVar 1) (qOp opMul (qVar 4) (qVar 2))) (qVar 3))) aNilQ))) (qC (.int 1))) [4])) aNilQ)))))))
def r_ends_of : Run := runF 5 g_ends_of
def g_law_walk : FS :=
    (qsSeq (qsPar [2, 3, 4, 5] (mConsQ (qLst fNilQ) (mConsQ (qC (.int 0)) (mConsQ (qC (.int 0)) (mConsQ (qC (.int 1)) aNilQ)))))
    (qsSeq (qsFor (qiR1 (fConsQ (qVar 1) fNilQ)) (tName 6)
    (qsSeq (qsApp 2 (fConsQ (qTup (fConsQ (qVar 3) (fConsQ (qVar 4) fNilQ))) fNilQ))
    (qsIf (qTe (qCh opLe opLt (qC (.int 0)) (qOp opAdd (qVar 4) (qVar 5)) (qVar 0)))
    (qsSet 4 (qOp opAdd (qVar 4) (qVar 5)))
    (qsPar [3, 5] (mConsQ (qOp opAdd (qVar 3) (qC (.int 1))) (mConsQ (qOp opSub (qC (.int 0)) (qVar 5)) aNilQ))))))
    (qsRet (qVar 2))))
def r_law_walk : Run := runF 7 g_law_walk
/-! ### the ends of a stripe -/
theorem mod2_div {w n : Nat} : n % (2 * w) / w = n / w % 2 := by rw [Nat.mul_comm, Nat.mod_mul_right_div_self]
theorem mod2_mod {w n : Nat} : n % (2 * w) % w = n % w := Nat.mod_mod_of_dvd n ⟨2, Nat.mul_comm 2 w⟩
theorem lies_mod {w n : Nat} : liesE w (n % (2 * w)) = liesE w n := by
  unfold liesE
  rw [mod2_div, mod2_mod, Nat.mod_mod]
theorem lies_lt' {w n : Nat} (w1 : 1 ≤ w) : liesE w n < w := by
  have := Nat.mod_lt n (show 0 < w by omega)
  unfold liesE
  split <;> omega
theorem lies_lap {w f e i : Nat} : liesE w (f + (i % (2 * w)) * e) = liesE w (f + i * e) := by
  rw [← lies_mod (n := f + i % (2 * w) * e), ← lies_mod (n := f + i * e)]
  congr 1
  rw [Nat.add_mod, Nat.add_mod f (i * e)]
  congr 2
  rw [Nat.mul_mod, Nat.mod_mod, ← Nat.mul_mod]
/-- the ends, n laps of them, rising -/
def lapE (w f e n : Nat) : List Int := (List.range n).map fun i => ((liesE w (f + i * e) : Nat) : Int)
def endsS (w f e : Nat) : List Int := setL (lapE w f e (2 * w))
theorem mem_lapE {w f e n : Nat} {j : Int} : j ∈ lapE w f e n ↔ ∃ i, i < n ∧ ((liesE w (f + i * e) : Nat) : Int) = j := by
  unfold lapE
  rw [List.mem_map]
  exact ⟨fun ⟨i, h, e⟩ => ⟨i, List.mem_range.mp h, e⟩, fun ⟨i, h, e⟩ => ⟨i, List.mem_range.mpr h, e⟩⟩
theorem lapE_len (w f e n : Nat) : (lapE w f e n).length = n := by unfold lapE; rw [List.length_map, List.length_range]
theorem lap_in {w f e n : Nat} (w1 : 1 ≤ w) : ∀ j ∈ lapE w f e n, j ∈ endsS w f e := fun j hj => by
  obtain ⟨i, _, rfl⟩ := mem_lapE.mp hj
  exact (setL_mem _ _).mpr (mem_lapE.mpr ⟨i % (2 * w), Nat.mod_lt _ (by omega), by rw [lies_lap]⟩)
theorem lap_all {w f e n : Nat} (w1 : 1 ≤ w) (h : 2 * w ≤ n) : setL (lapE w f e n) = endsS w f e :=
  lt_uniq (setL_lt _) (setL_lt _) fun j => ⟨fun hj => lap_in w1 j ((setL_mem _ _).mp hj), fun hj => by
    obtain ⟨i, hi, e⟩ := mem_lapE.mp ((setL_mem _ _).mp hj)
    exact (setL_mem _ _).mpr (mem_lapE.mpr ⟨i, by omega, e⟩)⟩
theorem endsS_bound {w f e : Nat} (w1 : 1 ≤ w) : ∀ j ∈ endsS w f e, 0 ≤ j ∧ j < w := fun j hj => by
  obtain ⟨i, _, rfl⟩ := mem_lapE.mp ((setL_mem _ _).mp hj)
  have := lies_lt' (n := f + i * e) w1
  omega
theorem setL_self {l : List Int} (h : l.Pairwise (· < ·)) : setL l = l := lt_uniq (setL_lt _) h fun j => setL_mem j l
theorem r_ends_of_ok {w f e : Nat} (w1 : 1 ≤ w) (w2 : w ≤ 12) (e1 : 1 ≤ e) (f2 : f < 10 ^ 12) (e2 : e < 10 ^ 12) : r_ends_of [.d (.int (w : Nat)), .d (.int (f : Nat)), .d (.int (e : Nat))] = .ok (.d (.tuple ((endsS w f e).map .int)), none) := by
  have i1 : isWithin (.int (w : Nat)) 1 12 = true := isWithin_t (by omega) (by omega)
  have i2 : isFrom (.int (f : Nat)) 0 = true := isFrom_t (by omega)
  have i3 : isFrom (.int (e : Nat)) 1 = true := isFrom_t (by omega)
  have fl : ∀ i : Nat, ((f : Int) + (i : Int) * (e : Int)) % (2 * (w : Int)) = (((f + i * e) % (2 * w) : Nat) : Int) := fun i => by
    rw [Int.natCast_emod, Int.natCast_add, Int.natCast_mul, Int.natCast_mul]
    rfl
  have w2' : (2 * (w : Int)).toNat = 2 * w := by omega
  simp! [r_ends_of, g_ends_of, r_is_within_eq, r_is_from_eq, i1, i2, i3, w2']
  rw [lcL_rng (fun i => .int ((liesE w (f + i * e) : Nat) : Int)) fun i hi => by
    have ml : mulB (i : Int) (e : Int) = true := mulOk_1 (by omega) (by omega)
    have ix : opIx (spotD (lies w ((f + i * e) % (2 * w)))) (.int 1) = some (.d (.int ((liesE w ((f + i * e) % (2 * w)) : Nat) : Int))) := rfl
    have lb := r_lies_by_ok (w := w) (n := (f + i * e) % (2 * w)) w1 w2
    rw [lies_mod] at ix
    simp! [ml, fl, lb, ix]]
  have em : (List.range (2 * w)).map (fun i => PyData.int ((liesE w (f + i * e) : Nat) : Int)) = (lapE w f e (2 * w)).map .int := by
    unfold lapE
    rw [List.map_map]
    rfl
  rw [em]
  simp! [intsD_map', endsS]
def stN (f e m : Nat) : Nat := if f < m then (m - f - 1) / e + 1 else 0
theorem st_lt {f e m i : Nat} (h : i < stN f e m) : f + i * e < m := by
  unfold stN at h
  split at h
  · have h1 : i * e ≤ (m - f - 1) / e * e := Nat.mul_le_mul_right e (by omega)
    have h2 := Nat.div_mul_le_self (m - f - 1) e
    omega
  · omega
theorem st_le {f e m : Nat} : stN f e m ≤ m := by
  unfold stN
  split
  · have := Nat.div_le_self (m - f - 1) e
    omega
  · omega
theorem rng_st {f e m : Nat} (f1 : f < 10 ^ 9) (m1 : m < 10 ^ 9) (e0 : 1 ≤ e) (e1 : e < 10 ^ 9) : r3B (f : Nat) (m : Nat) (e : Nat) = true ∧ rngC (f : Nat) (e : Nat) (r3N (f : Nat) (m : Nat) (e : Nat)) = (List.range (stN f e m)).map fun i => .int ((f + i * e : Nat) : Int) := by
  obtain ⟨r1, r2⟩ := r3_up (i := (f : Int)) (j := (m : Int)) (c := (e : Int)) (by omega) (by omega) (by omega) (by omega) (by omega) (by omega)
  refine ⟨r1, ?_⟩
  have : r3N (f : Nat) (m : Nat) (e : Nat) = stN f e m := by
    rw [r2]
    unfold stN
    by_cases c : f < m
    · rw [if_pos (by omega), if_pos c, show ((m : Int) - f - 1) = ((m - f - 1 : Nat) : Int) by omega, ← Int.natCast_ediv]
      generalize (m - f - 1) / e = q
      omega
    · rw [if_neg (by omega), if_neg c]
  unfold rngC
  rw [this]
  refine List.map_congr_left fun i _ => ?_
  rw [Int.natCast_add, Int.natCast_mul]
theorem int_okL {ns : List Int} {L : Nat} (hl : ns.length ≤ L) (h : ∀ n ∈ ns, -(10 ^ 100) < n ∧ n < 10 ^ 100) : OkN (L * 1 + 1) 1 (.list (ns.map .int)) := okN_list (okNs_map L (fun n hn => okN_int (by have := h n hn; omega) (by have := h n hn; omega)) hl)
/-! ### dicts of ints -/
def dkT (k : Int) : PyData × PyData := (.int k, .bool true)
theorem dGet_dk (k : Int) : ∀ K : List Int, dGet (K.map dkT) (.int k) = if k ∈ K then some (.bool true) else none
  | [] => rfl
  | j :: K => by
    rw [List.map_cons, dGet_cons, dGet_dk k K]
    show cond (PyData.eqv (.int j) (.int k)) _ _ = _
    rw [eqv_int]
    by_cases q : j = k
    · rw [decide_eq_true q, q]; simp; rfl
    · rw [decide_eq_false q]
      simp [List.mem_cons, show ¬ k = j from fun e => q e.symm]
theorem dPut_dk (k : Int) (K : List Int) : dPut (K.map dkT) (.int k) (.bool true) = (if k ∈ K then K else K ++ [k]).map dkT := by
  unfold dPut
  rw [dGet_dk]
  by_cases q : k ∈ K
  · rw [if_pos q, if_pos q]
    show List.map _ (K.map dkT) = _
    rw [List.map_map]
    refine List.map_congr_left fun j _ => ?_
    show cond (PyData.eqv (.int j) (.int k)) (PyData.int j, PyData.bool true) (dkT j) = dkT j
    cases PyData.eqv (.int j) (.int k) <;> rfl
  · rw [if_neg q, if_neg q, List.map_append]
    rfl
theorem kind_dk (k : Int) (K : List Int) : kindB (K.map dkT) (.int k) = true := by
  unfold kindB
  rw [List.all_map, List.all_eq_true]
  intro x _
  rfl
theorem keys_dk (K : List Int) : (K.map dkT).map (·.1) = K.map .int := by rw [List.map_map]; rfl
theorem nf_dk (K : List Int) : nfnB (.dict (K.map dkT)) = true := by cases K <;> rfl
theorem nodup_leI : ∀ {xs ys : List Int}, xs.Nodup → (∀ x ∈ xs, x ∈ ys) → xs.length ≤ ys.length
  | [], ys, _, _ => Nat.zero_le _
  | x :: xs, ys, h, hs => by
    obtain ⟨h1, h2⟩ := List.nodup_cons.mp h
    have m := hs x List.mem_cons_self
    have := nodup_leI (xs := xs) (ys := ys.erase x) h2 fun z hz => (List.mem_erase_of_ne (fun e : z = x => h1 (by rw [← e]; exact hz))).mpr (hs z (List.mem_cons_of_mem _ hz))
    rw [List.length_erase_of_mem m] at this
    have p := List.length_pos_of_mem m
    rw [List.length_cons]
    omega
theorem lt_ms {K L : List Int} (nd : K.Nodup) (m : ∀ k, k ∈ K ↔ k ∈ L) : (K.mergeSort fun a b => decide (a ≤ b)) = setL L := by
  refine sorted_uniq intLe_anti ((List.mergeSort_perm _ _).trans ?_) (List.pairwise_mergeSort intLe_trans intLe_total _) ((setL_lt L).imp fun h => decide_eq_true (Int.le_of_lt h))
  exact (List.perm_ext_iff_of_nodup nd ((setL_lt L).imp fun h e => by omega)).mpr fun k => by rw [m, setL_mem]
/-! ### the walk -/
def wayF (w i : Nat) : Int := if (i / w) % 2 = 0 then 1 else -1
theorem lies_step {w i : Nat} (w1 : 1 ≤ w) {s : Int} (hs : s = ((liesE w i : Nat) : Int) + wayF w i) :
    (i % w + 1 < w → decide (0 ≤ s) = true ∧ decide (s < w) = true ∧ ((liesE w (i + 1) : Nat) : Int) = s ∧ (i + 1) / w = i / w ∧ wayF w (i + 1) = wayF w i) ∧
    (¬ i % w + 1 < w → ((decide (0 ≤ s) = true ∧ decide (s < w) = false) ∨ decide (0 ≤ s) = false) ∧ liesE w (i + 1) = liesE w i ∧ (i + 1) / w = i / w + 1 ∧ wayF w (i + 1) = 0 - wayF w i) := by
  have dm := Nat.div_add_mod i w
  have ml := Nat.mod_lt i (show 0 < w by omega)
  unfold liesE wayF at *
  generalize hq : i / w = q at *
  generalize hm : i % w = m at *
  constructor
  · intro h
    have e1 : (i + 1) / w = q := by
      rw [← dm, show w * q + m + 1 = w * q + (m + 1) by omega, Nat.mul_add_div (by omega), Nat.div_eq_of_lt h]
      rfl
    have e2 : (i + 1) % w = m + 1 := by
      rw [← dm, show w * q + m + 1 = w * q + (m + 1) by omega, Nat.mul_add_mod, Nat.mod_eq_of_lt h]
    rw [e1, e2]
    by_cases c : q % 2 = 0
    · simp only [if_pos c] at *
      exact ⟨decide_eq_true (by omega), decide_eq_true (by omega), by omega, trivial, trivial⟩
    · simp only [if_neg c] at *
      exact ⟨decide_eq_true (by omega), decide_eq_true (by omega), by omega, trivial, trivial⟩
  · intro h
    have em : m + 1 = w := by omega
    have e0 : i + 1 = w * (q + 1) := by rw [Nat.mul_succ]; omega
    have e1 : (i + 1) / w = q + 1 := by rw [e0]; exact Nat.mul_div_cancel_left _ (by omega)
    have e2 : (i + 1) % w = 0 := by rw [e0]; exact Nat.mul_mod_right _ _
    rw [e1, e2]
    by_cases c : q % 2 = 0
    · have c2 : ¬ (q + 1) % 2 = 0 := by omega
      simp only [if_pos c, if_neg c2] at *
      exact ⟨.inl ⟨decide_eq_true (by omega), decide_eq_false (by omega)⟩, by omega, trivial, by omega⟩
    · have c2 : (q + 1) % 2 = 0 := by omega
      simp only [if_neg c, if_pos c2] at *
      exact ⟨.inr (decide_eq_false (by omega)), by omega, trivial, by omega⟩
def walkL (w n : Nat) : List PyData := (List.range n).map fun p => spotD (lies w p)
theorem walkL_succ (w n : Nat) : walkL w (n + 1) = walkL w n ++ [spotD (lies w n)] := by
  unfold walkL
  rw [List.range_succ, List.map_append]
  rfl
theorem r_law_walk_ok {w n : Nat} (w1 : 1 ≤ w) (w2 : w ≤ 12) (hn : n ≤ 10000) : r_law_walk [.d (.int (w : Nat)), .d (.int (n : Nat))] = .ok (.l (.list (walkL w n)), none) := by
  suffices s : (r_law_walk [.d (.int (w : Nat)), .d (.int (n : Nat))]).sat fun z => z = (.l (.list (walkL w n)), none) from Out.sat_eq s
  have z0 : liesE w 0 = 0 := by unfold liesE; simp
  have z1 : wayF w 0 = 1 := by unfold wayF; simp
  simp! [r_law_walk, g_law_walk]
  simp only [sat_raise_iff, sat_bind_iff]
  refine forL_rng (fun i r => ∃ x6 : Option Sl, r = [some (.d (.int (w : Nat))), some (.d (.int (n : Nat))), some (.l (.list (walkL w i))), some (.d (.int (i / w : Nat))), some (.d (.int (liesE w i : Nat))), some (.d (.int (wayF w i))), x6]) ⟨none, by rw [z0, z1]; simp; rfl⟩ ?_ ?_
  · rintro i r hi ⟨x6, rfl⟩
    obtain ⟨s1, s2⟩ := lies_step (w := w) (i := i) w1 rfl
    have ll : lenLt (walkL w i).length = true := lenLt_t (by unfold walkL; rw [List.length_map, List.length_range]; omega)
    have sp : PyData.tuple [.int (i / w : Nat), .int (liesE w i : Nat)] = spotD (lies w i) := rfl
    by_cases c : i % w + 1 < w
    · obtain ⟨d1, d2, e1, e2, e3⟩ := s1 c
      simp! [ll, sp, d1, d2]
      rw [walkL_succ, e1, e2, e3]
      exact ⟨_, rfl⟩
    · obtain ⟨d, e1, e2, e3⟩ := s2 c
      rcases d with ⟨d1, d2⟩ | d1
      · simp! [ll, sp, d1, d2]
        rw [walkL_succ, e1, e2, e3]
        exact ⟨_, rfl⟩
      · simp! [ll, sp, d1]
        rw [walkL_succ, e1, e2, e3]
        exact ⟨_, rfl⟩
  · rintro r ⟨x6, rfl⟩
    simp! []

end DL
set_option Elab.async false
set_option linter.all false
set_option autoImplicit false
set_option maxRecDepth 100000
set_option maxHeartbeats 4000000
namespace DL
open PySem L2 Out
local macro_rules | `(tactic| simp! [$ls,*]) => `(tactic| simp (maxSteps := 4000000) (disch := first | assumption | omega | (show nfnB _ = true; refine rfl2 ?_; with_unfolding_all rfl)) only [
  Out.bind_ok, Out.bind2_ok, Out.opt_some, Out.need_true, need_nf, need_false, bind_bad, bind2_bad, noX_bad, raiseIf_bad, onee_true, lenOk_t, lenLt_t, natB_t, posB_t, rngB_t, dmB_t, powB_t, repTB_t, repLB_t, Out.bind_exc, Out.bind2_exc, sat_raise_iff, Out.sat_ok, raiseIf_ok, noX_ok,
  qVar_eq, varK_d, varK_l, varK_b, qC_eq, fzK_d, fzK_n, fzK_v, fzV_l, fzV_d, qFz_eq, opK3_eq, opK2b_eq, opK2a_eq, opK2_eq, opK1_eq, qOp_eq, slotD_eq, slotO_eq, rd_d, rd_n, rd_v, it_d, it_l, it_b,
  opAdd_int, opAdd_str, opAdd_tup, opAdd_lst, opSub_int, opMul_int, opMod_int, opDiv_int, opPow_int, opRepT_tup, opRepP_tup, repK3_eq, repK2_eq, repK1_eq, qRep_eq, hg_true, mulOk_1, mulOk_2, mulOk_3,
  opLt_int, opLe_int, opGt_int, opGe_int, opEq_int, opNe_int, opEq_str, opNe_str, opEq_bool, opNe_bool, opEq_self, opNe_self, chK3_eq, chK2c_t, chK2c_f, chK2a_eq, chK2_eq, chK1_eq, qCh_eq, teK_eq, qTe_eq, tandK_t, tandK_f, torK_t, torK_f, tnotK_eq, qtAnd_eq, qtOr_eq, qtNot_eq,
  vandK_t, vandK_f, vorK_t, vorK_f, vnotK_eq, qAnd_eq, qOr_eq, qNot_eq, negK_eq, qNeg_eq, ifEK_t, ifEK_f, qIf_eq, opIx_l, opIx_t, opIx_s, oNone_eq, osK_eq, oSome_eq, sliD_l, sliD_t, sliD_s, sliK4_eq, sliK3_eq, sliK2_eq, sliK1_eq, qSli_eq, revD_l, revD_t, revK2_eq, revK_eq, qRev_eq,
  fNilQ_eq, fcK2_eq, fcK1_eq, fConsQ_eq, aNilQ_eq, acK2_eq, acK1_d, acK1_v, aConsQ_eq, mcK1_eq, mConsQ_eq, tupK_eq, qTup_eq, lstK_eq, qLst_eq, rdC_eq, rdAll_nil, rdAll_cons, biK2_eq, biK_eq, qB_eq, biLen_l, biLen_t, biTuple_l, biTuple_t, biList_l, biList_t, biAll_eq, biAny_eq, biSum_l, biSum_t, biMax2_eq, biMin2_eq, biDivmod_eq, biRepr_eq, isiK2_eq, nfnB_int, nfnB_str, nfnB_bool, nfnB_none, nfnB_tup, nfnB_lst, isiK_eq, qIsi_eq,
  opShl_int, opShr_int, opAndI_int, opOrI_int, opLt_tup, opLe_tup, opGt_tup, opGe_tup, rng_len, Int.toNat_natCast, biDict_l, pairsD_map, biMinL_eq, biMaxL_eq, foldI_c, biMaxD_l, biMaxD_t, biMinD_l, biMinD_t, extK_c, maxD_ii,  biSortedR_l, boolsD_mapf, boolsD_n, boolsD_c, intsD_n, intsD_c, intsD_mapf, boolsD_map, intsD_map, all_tt, biInt_i, biInt_b, biAbs_eq, opIn_l, opIn_t, opNin_l, opNin_t, iZpK_l, iZpK_t, iZpK_tl, iZpK_lt, qiZip_eq, agSl_l, agSl_b, biSorted_l, biSorted_t, opIxD_eq, qDNew_eq, dGet_nil, dicS_l, dicS_b, dpK3_eq, dpK2b_eq, dpK2_eq, dpK1_eq, dpK0_eq, qsDput_eq, dicA_l, dicA_b, dicA_d, inD3_eq, inD2_eq, inD1_eq, qInD_eq, setS_ints, setS_intsT, popK2_eq, popK1_eq, qPop_eq, popA4_eq, popA3_eq, popA2_eq, popA1_eq, popA0_eq, qPopAt_eq, extK3_eq, extK2_eq, extK1_eq, qsExt_eq, fnN_eq, qCallV_eq, cvK_t, agB_t, agK2c_eq, agK2b_eq, agK2_eq, agK1c_eq, agK1b_eq, agK1_eq, agK0_eq, qsAgP_eq, opAddI_int,
  isIntD, isBoolD, isTupD, isStrD, isListD, isDictD,
  lzK_l, qLz_eq, tr1K_eq, qTr1_eq, stpK5_eq, stpK4_l, stpK3_eq, stpK2_eq, stpK1_eq, qStp_eq, gtK3_eq, gtK2_eq, gtK1_eq, gtK0_eq, qGet_eq, idK5_eq, idK4_l, idK3_c, isLstD_l, idK2_eq, idK1_eq, qIdx_eq, cnK4_l, cnK3_c, cnK2_eq, cnK1_eq, qCnt_eq, 
  opNe0_l, opNe0_t, opEq0_l, opEq0_t, forDK_eq, qsForD_eq, lcDK_eq, isK2_eq, isK_eq, qIs_eq, isT_bool, qLcO_eq, lcOK_l, lcOK_d, lcO3_n, lcO2_eq, qLcD_eq, biSortedK_eq, dis3_eq, dis2_eq, dis1_eq, qDis_eq, kB_int, kB_str, tpB_tup,
  qsNext_eq, qsBrk_eq, qsCnt_eq, seqK_nx, seqK_rt, seqK_bk, seqK_ct, qsSeq_eq, dropK_eq, qsDrop_eq, retK_d, retK_n, retK_v, retV_l, retV_d, qsRet_eq, qsRetN_eq, ifSK_t, ifSK_f, qsIf_eq, setK_d, setK_n, qsSet_eq, tName_eq, tNil_eq, tCons_eq, tTupT_eq, nxK_eq, asgK_eq, qsAsg_eq, putQ_nil, putQ_d, putQ_n, parK_eq, qsPar_eq,
  appK0_eq, qsApp_eq, appK_eq, appK2_l, appK2_b, putK0_eq, putK1_eq, qsPut_eq, putK2_eq, putK3_l, putK3_b, putK4_eq, augK3_eq, augK1b_eq, augK1_eq, augK0_eq, qsAug_eq, iSeqK_l, iSeqK_t, qiSeq_eq, iR1K_eq, iR2K_eq, qiR1_eq, qiR2_eq, iR3K_eq, qiR3_eq, lrB_t, lr1K_eq, qLr1_eq, lr2K2_eq, lr2K_eq, qLr2_eq, iEnK_l, iEnK_t, qiEn_eq, lpK_nx, lpK_ct, lpK_bk, lpK_rt, forK_eq, forL_nil, forL_cons, qsFor_eq, qsWhile_eq,
  lcE3_eq, lcE2_t, lcE2_f, lcE1_eq, lcE_eq, lcK2_eq, lcK1_eq, qLc_eq, scK1_eq, scK3_eq, scK4_eq, qSc_eq, intQK_eq, qIntQ_eq, blt_t, qtYes_eq, lcL_nil, tOwn_eq, tOwnK_n, tOwnK_d, callK3_eq, callK2_eq, callK1_eq, qCall_eq, aRevK_eq, aRevQ_eq, List.reverse_cons, List.reverse_nil, endK_nx, endK_rt, endK2_eq, runF_eq, exitB_nil, exitB_d, exitB_b, argOf_d, argOf_v', argV_l, argV_b, argsOf_nil, argsOf_cons, argsC_eq, setC_eq, setO_l, setO_b, putB_n, putB_s, putF_s, putF_n, firstV_nil, firstV_v, firstV_d, resV_d, resV_l,
  oneB_nil, oneB_b, oneB_d, noB_nil, noB_b, noB_d, wipeD_nil, wipeD_cons, keepD_eq, keepO_d, keepO_n, backD_nil, backD_cons, entD_eq, ixN_pos, Lp_nx, Lp_ct, Lp_bk, Lp_rt, Option.map_some,
  at0, at1, at2, at3, at4, List.map_cons, List.map_nil, List.length_cons, List.length_nil, List.length_map, List.length_append, List.length_range, List.replicate_succ, List.replicate_zero, List.cons_append, List.nil_append, List.flatten_cons, List.flatten_nil, List.append_nil, List.getElem?_cons_zero, List.getElem?_cons_succ, List.set_cons_zero, List.set_cons_succ, List.all_cons, List.all_nil, List.any_cons, List.any_nil, id_eq,
  Nat.reduceAdd, Nat.reduceSub, Nat.reduceLeDiff, Nat.reduceLT, Nat.reduceEqDiff, Nat.reduceMul, Nat.reduceBEq, Int.reducePow, Int.reduceNeg, Int.reduceLT, Int.reduceLE, Int.reduceToNat, Int.reduceAdd, Int.reduceSub, Int.reduceMul, Int.reduceMod, Int.reduceDiv, Int.reduceEq, Nat.zero_add, Nat.add_zero, Nat.sub_self, Nat.add_one_sub_one, Nat.sub_zero, and_true, true_and, and_false, false_and, and_self, or_true, true_or, or_false, false_or, not_true_eq_false, not_false_eq_true, ne_eq, decide_true, decide_false, decide_eq_true_eq, Bool.not_true, Bool.not_false, Bool.and_true, Bool.true_and, Bool.and_false, Bool.false_and, Bool.or_true, Bool.true_or, Bool.or_false, Bool.false_or, Bool.not_not, eq_self, Bool.false_eq_true, ↓reduceIte, if_true, if_false, $ls,*])
def g_law_runs : FS :=
    (qsSeq (qsSet 2 (qLc (qiSeq (qVar 0)) (tTupT 2 (tCons (tOwn 5) (tCons (tOwn 6) tNil))) qtYes (qAnd (qCh opLe opLe (qOp opIx (qVar 1) (qC (.int 0))) (qVar 5) (qOp opIx (qVar 1) (qC (.int 1)))) (qCh opLe opLe (qOp opIx (qVar 1) (qC (.int 2))) (qVar 6) (qOp opIx (qVar 1) (qC (.int 3))))) [5, 6]))
    (qsSeq (qsSet 3 (qLc (qiEn (fConsQ (qVar 2) fNilQ)) (tTupT 2 (tCons (tOwn 7) (tCons (tOwn 8) tNil))) (qtAnd (qTe (qVar 8)) (qtOr (qTe (qOp opEq (qVar 7) (qC (.int 0)))) (qtNot (qTe (qOp opIx (qVar 2) (qOp opSub (qVar 7) (qC (.int 1)))))))) (qVar 7) [7, 8]))
    (qsSeq (qsSet 4 (qLc (qiEn (fConsQ (qVar 2) fNilQ)) (tTupT 2 (tCons (tOwn 7) (tCons (tOwn 8) tNil))) (qtAnd (qTe (qVar 8)) (qTe (qIs (isT false false) (qOp opIx (qOp opAdd (qVar 2) (qLst (fConsQ (qC (.bool false)) fNilQ))) (qOp opAdd (qVar 7) (qC (.int 1))))))) (qVar 7) [7, 8]))
    (qsRet (qB biTuple (aConsQ (qFz (qLz (fConsQ (qVar 3) (fConsQ (qVar 4) fNilQ)))) aNilQ))))))
def r_law_runs : Run := runF 9 g_law_runs
def g_law_areas : FS :=
    (qsSeq (qsSet 3 (qLst (fConsQ (qTup (fConsQ (qC (.int 0)) (fConsQ (qVar 2) (fConsQ (qC (.int 0)) (fConsQ (qOp opSub (qVar 1) (qC (.int 1))) fNilQ))))) (fConsQ (qTup (fConsQ (qC (.int 0)) (fConsQ (qOp opPow (qC (.int 10)) (qC (.int 11))) (fConsQ (qC (.int 0)) (fConsQ (qC (.int 0)) fNilQ))))) (fConsQ (qTup (fConsQ (qOp opAdd (qVar 2) (qC (.int 1))) (fConsQ (qOp opAdd (qVar 2) (qC (.int 2))) (fConsQ (qC (.int 0)) (fConsQ (qOp opSub (qVar 1) (qC (.int 1))) fNilQ))))) fNilQ)))))
    (qsSeq (qsFor (qiR1 (fConsQ (qC (.int 5)) fNilQ)) (tName 4)
    (qsSeq (qsPar [5, 6] (mConsQ (qCall 2 r_law_draw (aConsQ (qVar 0) (aConsQ (qFz (qOp opAdd (qVar 2) (qC (.int 1)))) aNilQ))) (mConsQ (qCall 2 r_law_draw (aConsQ (qVar 0) (aConsQ (qFz (qVar 1)) aNilQ))) aNilQ)))
    (qsSeq (qsSet 7 (qOp opAdd (qVar 6) (qCall 2 r_law_draw (aConsQ (qVar 0) (aConsQ (qFz (qOp opSub (qVar 1) (qVar 6))) aNilQ)))))
    (qsApp 3 (fConsQ (qTup (fConsQ (qVar 5) (fConsQ (qOp opAdd (qVar 5) (qCall 2 r_law_draw (aConsQ (qVar 0) (aConsQ (qFz (qC (.int 6))) aNilQ)))) (fConsQ (qVar 6) (fConsQ (qVar 7) fNilQ))))) fNilQ)))))
    (qsRet (qVar 3))))
def r_law_areas : Run := runF 8 g_law_areas
def g_law_right_v12 : FS :=
    (qsSeq (qsSet 1 (qCall 1 r_law_weave (aConsQ (qVar 0) aNilQ)))
    (qsSeq (qsPar [2, 3] (mConsQ (qB biRepr (aConsQ (qVar 1) aNilQ)) (mConsQ (qB biSum (aConsQ (qFz (qOp opIx (qVar 1) (qC (.int 1)))) aNilQ)) aNilQ)))
    (qsSeq (qsSet 4 (qCall 2 r_law_walk (aConsQ (qFz (qOp opIx (qVar 1) (qC (.int 0)))) (aConsQ (qFz (qVar 3)) aNilQ))))
    (qsSeq (qsSet 5 (qB biDict (aConsQ (qFz (qLc (qiEn (fConsQ (qVar 4) fNilQ)) (tTupT 2 (tCons (tOwn 13) (tCons (tOwn 14) tNil))) qtYes (qTup (fConsQ (qVar 14) (fConsQ (qVar 13) fNilQ))) [13, 14])) aNilQ)))
    (qsSeq (qsFor (qiSeq (qOp opAdd (qLr1 (qOp opAdd (qOp opIx (qOp opIx (qVar 4) (qNeg (qC (.int 1)))) (qC (.int 0))) (qC (.int 4)))) (qLst (fConsQ (qOp opPow (qC (.int 10)) (qC (.int 11))) fNilQ)))) (tName 6)
    (qsFor (qiR1 (fConsQ (qOp opIx (qVar 1) (qC (.int 0))) fNilQ)) (tName 9)
    (qsIf (qtNot (qTe (qCall 2 r_law_same (aConsQ (qFz (qCall 3 r_place_at (aConsQ (qFz (qVar 1)) (aConsQ (qFz (qVar 6)) (aConsQ (qFz (qVar 9)) aNilQ))))) (aConsQ (qFz (qGet 5 (qTup (fConsQ (qVar 6) (fConsQ (qVar 9) fNilQ))))) aNilQ)))))
    (qsRet (qC (.bool false)))
    qsNext)))
    (qsSeq (qsFor (qiR1 (fConsQ (qC (.int 5)) fNilQ)) (tName 7)
    (qsSeq (qsSet 10 (qCall 2 r_law_draw (aConsQ (qVar 0) (aConsQ (qFz (qVar 3)) aNilQ))))
    (qsFor (qiSeq (qLst (fConsQ (qTup (fConsQ (qVar 10) (fConsQ (qOp opAdd (qVar 10) (qCall 2 r_law_draw (aConsQ (qVar 0) (aConsQ (qFz (qOp opSub (qVar 3) (qVar 10))) aNilQ)))) fNilQ))) (fConsQ (qTup (fConsQ (qVar 10) (fConsQ (qVar 10) fNilQ))) (fConsQ (qTup (fConsQ (qC (.int 0)) (fConsQ (qOp opSub (qVar 3) (qC (.int 1))) fNilQ))) fNilQ))))) (tName 11)
    (qsSeq (qsSet 12 (qB biTuple (aConsQ (qFz (qB biSorted (aConsQ (qFz (qSli (qVar 4) (oSome (qOp opIx (qVar 11) (qC (.int 0)))) (oSome (qOp opAdd (qOp opIx (qVar 11) (qC (.int 1))) (qC (.int 1)))))) aNilQ))) aNilQ)))
    (qsIf (qtNot (qTe (qCall 2 r_law_same (aConsQ (qFz (qLst (fConsQ (qCall 2 r_covered (aConsQ (qFz (qVar 1)) (aConsQ (qFz (qVar 11)) aNilQ))) (fConsQ (qCall 2 r_covered (aConsQ (qFz (qVar 1)) (aConsQ (qFz (qVar 11)) aNilQ))) fNilQ)))) (aConsQ (qFz (qLst (fConsQ (qVar 12) (fConsQ (qVar 12) fNilQ)))) aNilQ)))))
    (qsRet (qC (.bool false)))
    qsNext)))))
    (qsSeq (qsFor (qiSeq (qCall 3 r_law_areas (aConsQ (qVar 0) (aConsQ (qFz (qOp opIx (qVar 1) (qC (.int 0)))) (aConsQ (qFz (qOp opIx (qOp opIx (qVar 4) (qNeg (qC (.int 1)))) (qC (.int 0)))) aNilQ))))) (tName 8)
    (qsSeq (qsSet 12 (qCall 2 r_law_runs (aConsQ (qFz (qVar 4)) (aConsQ (qFz (qVar 8)) aNilQ))))
    (qsIf (qtNot (qTe (qCall 2 r_law_same (aConsQ (qFz (qLst (fConsQ (qCall 2 r_spans_in (aConsQ (qFz (qVar 1)) (aConsQ (qFz (qVar 8)) aNilQ))) (fConsQ (qCall 2 r_spans_in (aConsQ (qFz (qVar 1)) (aConsQ (qFz (qVar 8)) aNilQ))) fNilQ)))) (aConsQ (qFz (qLst (fConsQ (qVar 12) (fConsQ (qVar 12) fNilQ)))) aNilQ)))))
    (qsRet (qC (.bool false)))
    qsNext)))
    (qsRet (qOp opEq (qB biRepr (aConsQ (qVar 1) aNilQ)) (qVar 2))))))))))
def r_law_right_v12 : Run := runF 15 g_law_right_v12
def g_k31 : FS :=
    (qsSeq (qsFor (qiR1 (fConsQ (qB biMax2 (aConsQ (qFz (qC (.int 1))) (aConsQ (qFz (qB biMin2 (aConsQ (qFz (qB biLen (aConsQ (qVar 0) aNilQ))) (aConsQ (qFz (qC (.int 4))) aNilQ)))) aNilQ))) fNilQ)) (tName 1)
    (qsSeq (qsSet 2 (qCall 2 r_law_pen (aConsQ (qFz (qVar 0)) (aConsQ (qFz (qVar 1)) aNilQ))))
    (qsFor (qiR1 (fConsQ (qC (.int 2)) fNilQ)) (tName 3)
    (qsIf (qtNot (qTe (qCall 1 r_law_right_v12 (aConsQ (qVar 2) aNilQ))))
    (qsRet (qC (.bool false)))
    qsNext))))
    (qsRet (qC (.bool true))))
def r_k31 : Run := runF 4 g_k31
/-! ### runs by their begins and their ends -/
def begB (B : Nat → Bool) (i : Nat) : Bool := B i && (decide (i = 0) || !B (i - 1))
def endB (B : Nat → Bool) (m i : Nat) : Bool := B i && (decide (i + 1 = m) || !B (i + 1))
def begL (B : Nat → Bool) (m : Nat) : List Int := natZ ((List.range m).filter (begB B))
def endL (B : Nat → Bool) (m : Nat) : List Int := natZ ((List.range m).filter (endB B m))
/-- the ends but the last place -/
def endP (B : Nat → Bool) (m : Nat) : List Int := natZ ((List.range m).filter fun i => B i && !B (i + 1))
theorem natZ_app (a b : List Nat) : natZ (a ++ b) = natZ a ++ natZ b := List.map_append
theorem filt_succ (f : Nat → Bool) (m : Nat) : (List.range (m + 1)).filter f = (List.range m).filter f ++ if f m = true then [m] else [] := by
  rw [List.range_succ, List.filter_append]
  congr 1
  by_cases h : f m = true
  · rw [if_pos h, List.filter_cons_of_pos h]; rfl
  · rw [if_neg h, List.filter_cons_of_neg h]; rfl
theorem endL_succ (B : Nat → Bool) (m : Nat) : endL B (m + 1) = endP B m ++ natZ (if B m = true then [m] else []) := by
  unfold endL endP
  rw [filt_succ, natZ_app]
  congr 1
  · congr 1
    refine List.filter_congr fun i hi => ?_
    have := List.mem_range.mp hi
    unfold endB
    rw [decide_eq_false (by omega), Bool.false_or]
  · unfold endB
    rw [decide_eq_true rfl, Bool.true_or, Bool.and_true]
theorem runStep_far {acc : List (Int × Int)} {x : Int} (h : ∀ q ∈ acc, q.2 < x - 1) : runStep acc x = acc ++ [(x, x)] := by
  rcases List.eq_nil_or_concat acc with rfl | ⟨ys, y, rfl⟩
  · rfl
  · rw [List.concat_eq_append] at h ⊢
    rw [runStep_snoc, if_neg (by have := h y (by simp); omega)]
theorem endL_off {B : Nat → Bool} {m : Nat} (h : B m = false) : endL B m = endP B m := by
  unfold endL endP
  congr 1
  refine List.filter_congr fun i _ => ?_
  unfold endB
  by_cases e : i + 1 = m
  · rw [e, h, decide_eq_true rfl]; rfl
  · rw [decide_eq_false e, Bool.false_or]
theorem begL_succ (B : Nat → Bool) (m : Nat) : begL B (m + 1) = begL B m ++ natZ (if begB B m = true then [m] else []) := by
  unfold begL
  rw [filt_succ, natZ_app]
theorem endP_succ (B : Nat → Bool) (m : Nat) : endP B (m + 1) = endP B m ++ natZ (if (B m && !B (m + 1)) = true then [m] else []) := by
  unfold endP
  rw [filt_succ, natZ_app]
theorem runs_two (B : Nat → Bool) : ∀ m : Nat, runs (natZ ((List.range m).filter B)) = (begL B m).zip (endL B m) ∧ (begL B m).length = (endL B m).length
  | 0 => ⟨rfl, rfl⟩
  | m + 1 => by
    obtain ⟨e, l⟩ := runs_two B m
    cases hm : B m with
    | false =>
      have b1 : begL B (m + 1) = begL B m := by
        rw [begL_succ, if_neg (by unfold begB; rw [hm]; simp)]
        exact List.append_nil _
      have b2 : endL B (m + 1) = endL B m := by
        rw [endL_succ, if_neg (by rw [hm]; simp), endL_off hm]
        exact List.append_nil _
      rw [filt_succ, if_neg (by rw [hm]; simp), List.append_nil, b1, b2]
      exact ⟨e, l⟩
    | true =>
      rw [filt_succ, if_pos hm, natZ_app]
      show runs (natZ ((List.range m).filter B) ++ [((m : Nat) : Int)]) = _ ∧ _
      rw [runs_snoc, e]
      have eM : endL B (m + 1) = endP B m ++ [((m : Nat) : Int)] := by
        rw [endL_succ, if_pos hm]
        rfl
      cases m with
      | zero =>
        have b1 : begL B 1 = [0] := by
          rw [begL_succ, if_pos (by unfold begB; rw [hm]; rfl)]
          rfl
        rw [eM, b1]
        exact ⟨rfl, rfl⟩
      | succ n =>
        have eb : begB B (n + 1) = !B n := by
          unfold begB
          rw [hm, decide_eq_false (by omega)]
          rfl
        have eP : endP B (n + 1) = endP B n := by
          rw [endP_succ, if_neg (by rw [hm]; simp)]
          exact List.append_nil _
        rw [eM, eP]
        cases hn : B n with
        | true =>
          have b1 : begL B (n + 1 + 1) = begL B (n + 1) := by
            rw [begL_succ, if_neg (by rw [eb, hn]; simp)]
            exact List.append_nil _
          have b2 : endL B (n + 1) = endP B n ++ [((n : Nat) : Int)] := by
            rw [endL_succ, if_pos hn]
            rfl
          rw [b2] at l ⊢
          rw [b1]
          have ne : begL B (n + 1) ≠ [] := fun h => by rw [h] at l; simp at l
          obtain ⟨ys, y, ey⟩ : ∃ ys y, begL B (n + 1) = ys ++ [y] := ⟨_, _, (List.dropLast_concat_getLast ne).symm⟩
          rw [ey] at l ⊢
          have l3 : ys.length = (endP B n).length := by simpa using l
          have z : ∀ x : Int, (ys ++ [y]).zip (endP B n ++ [x]) = ys.zip (endP B n) ++ [(y, x)] := fun x => List.zip_append l3
          rw [z, z, runStep_snoc, if_pos (by show (n : Int) = ((n + 1 : Nat) : Int) - 1; omega)]
          exact ⟨rfl, by simp [l3]⟩
        | false =>
          have b1 : begL B (n + 1 + 1) = begL B (n + 1) ++ [((n + 1 : Nat) : Int)] := by
            rw [begL_succ, if_pos (by rw [eb, hn]; rfl)]
            rfl
          have b2 : endL B (n + 1) = endP B n := by
            rw [endL_succ, if_neg (by rw [hn]; simp)]
            exact List.append_nil _
          rw [b2] at l ⊢
          rw [b1, List.zip_append l, runStep_far fun q hq => ?_]
          · exact ⟨rfl, by simp [l]⟩
          · have m2 := (List.of_mem_zip hq).2
            obtain ⟨i, hi, ei⟩ := List.mem_map.mp m2
            have := List.mem_range.mp (List.mem_filter.mp hi).1
            omega
theorem enumD_rngW (n : Nat) (f : Nat → PyData) : enumD ((List.range n).map f) = (List.range n).map fun i => .tuple [.int (i : Nat), f i] := by
  apply List.ext_getElem?
  intro i
  by_cases h : i < n
  · have : ((List.range n).map f)[i]? = some (f i) := by simp [h]
    rw [enumD_at this, List.getElem?_map, List.getElem?_range h]
    rfl
  · rw [List.getElem?_eq_none (by rw [enumD_len, List.length_map, List.length_range]; omega), List.getElem?_eq_none (by simp; omega)]
theorem opIx_lrng {n i : Nat} {f : Nat → PyData} (h : i < n) : opIx (.list ((List.range n).map f)) (.int (i : Nat)) = some (.d (f i)) := by
  rw [opIx_l]
  unfold atD
  rw [List.length_map, List.length_range, ixN_pos (by omega) (by omega)]
  simp [h]
theorem zip_ints : ∀ A B : List Int, zipD (A.map .int) (B.map .int) = (A.zip B).map pairD
  | [], _ => by simp [zipD]
  | _ :: _, [] => by simp [zipD]
  | a :: A, b :: B => by
    have ih := zip_ints A B
    unfold zipD at ih ⊢
    rw [List.map_cons, List.map_cons, List.zipWith_cons_cons, ih, List.zip_cons_cons, List.map_cons]
    rfl
theorem r_law_runs_ok {w m : Nat} {a b c d : Int} (hm : m ≤ 400) : r_law_runs [.d (.list (walkL w m)), .d (areaD a b c d)] = .ok (.d (.tuple ((runs (spansL w a b c d m)).map pairD)), none) := by
  obtain ⟨B, hB⟩ : ∃ B, B = inA w a b c d := ⟨_, rfl⟩
  have i0 : opIx (areaD a b c d) (.int 0) = some (.d (.int a)) := rfl
  have i1 : opIx (areaD a b c d) (.int 1) = some (.d (.int b)) := rfl
  have i2 : opIx (areaD a b c d) (.int 2) = some (.d (.int c)) := rfl
  have i3 : opIx (areaD a b c d) (.int 3) = some (.d (.int d)) := rfl
  have iW : ∀ r, iSeqK (.d (.list (walkL w m))) r = .ok ((List.range m).map (fun n => spotD (lies w n)), r) := fun _ => rfl
  have lk : lenOk m = true := lenOk_t (by omega)
  have iE : ∀ r, iEnK [.list ((List.range m).map fun n => PyData.bool (B n))] r = .ok (enumD ((List.range m).map fun n => PyData.bool (B n)), r) := fun _ => rfl
  have en := enumD_rngW m fun n => PyData.bool (B n)
  simp! [r_law_runs, g_law_runs, iW]
  rw [lcL_mapT (e := fun n => spotD (lies w n)) (fun n => .bool (B n)) fun n hn => by
    have sp : spotD (lies w n) = .tuple [.int (n / w : Nat), .int (liesE w n : Nat)] := rfl
    have eB : B n = (decide (a ≤ ((n / w : Nat) : Int)) && decide (((n / w : Nat) : Int) ≤ b) && (decide (c ≤ ((liesE w n : Nat) : Int)) && decide (((liesE w n : Nat) : Int) ≤ d))) := by rw [hB]; rfl
    rw [eB]
    cases d1 : decide (a ≤ ((n / w : Nat) : Int)) <;> cases d2 : decide (((n / w : Nat) : Int) ≤ b) <;> cases d3 : decide (c ≤ ((liesE w n : Nat) : Int)) <;> cases d4 : decide (((liesE w n : Nat) : Int) ≤ d) <;> simp! [sp, i0, i1, i2, i3, d1, d2, d3, d4]]
  simp! [lk, iE, en]
  rw [lcL_filtT (e := fun i : Nat => .tuple [.int (i : Nat), .bool (B i)]) (begB B) (fun i => .int (i : Nat)) fun i hi => by
    have hi := List.mem_range.mp hi
    cases hb : B i with
    | false =>
      have e : begB B i = false := by unfold begB; rw [hb]; rfl
      rw [e]
      simp! []
    | true =>
      cases i with
      | zero =>
        have e : begB B 0 = true := by unfold begB; rw [hb]; rfl
        have d0 : decide (((0 : Nat) : Int) = 0) = true := rfl
        rw [e]
        simp! [d0]
      | succ i =>
        have e : begB B (i + 1) = !B i := by unfold begB; rw [hb, decide_eq_false (by omega)]; rfl
        have d0 : decide (((i + 1 : Nat) : Int) = 0) = false := decide_eq_false (by omega)
        have es : ((i + 1 : Nat) : Int) - 1 = ((i : Nat) : Int) := by omega
        have ix := opIx_lrng (n := m) (i := i) (f := fun n => PyData.bool (B n)) (by omega)
        rw [e]
        cases hn : B i with
        | true => rw [hn] at ix; simp! [d0, es, ix]
        | false => rw [hn] at ix; simp! [d0, es, ix]]
  have lB : lenOk m = true := lk
  have lm1 : lenOk (m + 1) = true := lenOk_t (by omega)
  simp! [lk, iE, en]
  rw [lcL_filtT (e := fun i : Nat => .tuple [.int (i : Nat), .bool (B i)]) (endB B m) (fun i => .int (i : Nat)) fun i hi => by
    have hi := List.mem_range.mp hi
    cases hb : B i with
    | false =>
      have e : endB B m i = false := by unfold endB; rw [hb]; rfl
      rw [e]
      simp! []
    | true =>
      have es : ((i : Nat) : Int) + 1 = ((i + 1 : Nat) : Int) := by omega
      by_cases q : i + 1 = m
      · have e : endB B m i = true := by unfold endB; rw [hb, decide_eq_true q]; rfl
        have ix : opIx (.list ((List.range m).map (fun n => PyData.bool (B n)) ++ [PyData.bool false])) (.int ((i + 1 : Nat) : Int)) = some (.d (.bool false)) := by
          rw [opIx_l]
          unfold atD
          rw [List.length_append, List.length_map, List.length_range, ixN_pos (by omega) (by simp; omega)]
          simp [q]
        have bx : (false ^^ false == false) = true := rfl
        rw [e]
        simp! [es, lm1, ix, bx]
      · have e : endB B m i = !B (i + 1) := by unfold endB; rw [hb, decide_eq_false q]; rfl
        have ix : opIx (.list ((List.range m).map (fun n => PyData.bool (B n)) ++ [PyData.bool false])) (.int ((i + 1 : Nat) : Int)) = some (.d (.bool (B (i + 1)))) := by
          rw [opIx_l]
          unfold atD
          rw [List.length_append, List.length_map, List.length_range, ixN_pos (by omega) (by simp; omega)]
          have : i + 1 < m := by omega
          simp [List.getElem?_append, this]
        have bx : (false ^^ false == false) = true := rfl
        have bx2 : (false ^^ true == false) = false := rfl
        rw [e]
        cases hn : B (i + 1) with
        | true => rw [hn] at ix; simp! [es, lm1, ix, bx2]
        | false => rw [hn] at ix; simp! [es, lm1, ix, bx]]
  simp! [lk]
  have e1 : ((List.range m).filter (begB B)).map (fun i : Nat => PyData.int (i : Nat)) = (begL B m).map .int := by unfold begL natZ; rw [List.map_map]; rfl
  have e2 : ((List.range m).filter (endB B m)).map (fun i : Nat => PyData.int (i : Nat)) = (endL B m).map .int := by unfold endL natZ; rw [List.map_map]; rfl
  rw [e1, e2, zip_ints, ← (runs_two B m).1, hB]
  rfl
/-- an area that may be asked of -/
def ArOk (w : Nat) (x : PyData) : Prop := ∃ a b c d : Int, x = areaD a b c d ∧ 0 ≤ a ∧ a ≤ b ∧ 0 ≤ c ∧ c ≤ d ∧ d < w
theorem r_law_areas_ok {p : PyData} (hp : Pen p) {w n : Nat} (w1 : 1 ≤ w) (w2 : w ≤ 12) (hn : n ≤ 400) : ∃ xs p', r_law_areas [.b p, .d (.int (w : Nat)), .d (.int (n : Nat))] = .ok (.l (.list xs), some p') ∧ Pen p' ∧ ∀ x ∈ xs, ArOk w x := by
  suffices s : (r_law_areas [.b p, .d (.int (w : Nat)), .d (.int (n : Nat))]).sat fun z => ∃ xs p', z = (.l (.list xs), some p') ∧ Pen p' ∧ ∀ x ∈ xs, ArOk w x by
    obtain ⟨_, e, xs, p', rfl, hp', h⟩ := s
    exact ⟨xs, p', e, hp', h⟩
  simp! [r_law_areas, g_law_areas, -forL_cons]
  simp only [sat_raise_iff, sat_bind_iff]
  refine forL_rng (fun i r => ∃ (p : PyData) (xs : List PyData) (x4 x5 x6 x7 : Option Sl), r = [some (.b p), some (.d (.int (w : Nat))), some (.d (.int (n : Nat))), some (.l (.list xs)), x4, x5, x6, x7] ∧ Pen p ∧ xs.length = 3 + i ∧ ∀ x ∈ xs, ArOk w x) ⟨p, _, none, none, none, none, rfl, hp, rfl, fun x hx => ?_⟩ ?_ ?_
  · simp only [List.mem_cons, List.not_mem_nil, or_false] at hx
    rcases hx with rfl | rfl | rfl
    · exact ⟨_, _, _, _, rfl, by omega, by omega, by omega, by omega, by omega⟩
    · exact ⟨_, _, _, _, rfl, by omega, by decide, by omega, by omega, by omega⟩
    · exact ⟨_, _, _, _, rfl, by omega, by omega, by omega, by omega, by omega⟩
  · rintro i r hi ⟨p, xs, x4, x5, x6, x7, rfl, hp, xl, hx⟩
    obtain ⟨u, p1, e1, hp1, u0, u1⟩ := r_law_draw_ok (m := (n : Int) + 1) hp (by omega) (by omega)
    obtain ⟨v, p2, e2, hp2, v0, v1⟩ := r_law_draw_ok (m := (w : Int)) hp1 (by omega) (by omega)
    obtain ⟨t, p3, e3, hp3, t0, t1⟩ := r_law_draw_ok (m := (w : Int) - v) hp2 (by omega) (by omega)
    obtain ⟨z, p4, e4, hp4, z0, z1⟩ := r_law_draw_ok (m := 6) hp3 (by decide) (by decide)
    have ll : lenLt xs.length = true := lenLt_t (by omega)
    simp! [e1, e2, e3, e4, ll]
    refine ⟨p4, xs ++ [areaD u (u + z) v (v + t)], _, _, _, _, rfl, hp4, by rw [List.length_append, xl]; rfl, fun x h => ?_⟩
    rcases List.mem_append.mp h with q | q
    · exact hx x q
    · rw [List.mem_singleton.mp q]
      exact ⟨_, _, _, _, rfl, by omega, by omega, by omega, by omega, by omega⟩
  · rintro r ⟨p, xs, x4, x5, x6, x7, rfl, hp, xl, hx⟩
    simp! []
    exact ⟨xs, p, rfl, hp, hx⟩
/-! ### the places of the spots -/
theorem eqv_sp (a b : Nat × Nat) : PyData.eqv (spotD a) (spotD b) = decide (a = b) := by
  have := keysD_eqv [.inl (a.1 : Int), .inl (a.2 : Int)] [.inl (b.1 : Int), .inl (b.2 : Int)]
  rw [show spotD a = keysD [.inl (a.1 : Int), .inl (a.2 : Int)] from rfl, show spotD b = keysD [.inl (b.1 : Int), .inl (b.2 : Int)] from rfl, this]
  rw [Bool.eq_iff_iff, decide_eq_true_iff, decide_eq_true_iff]
  obtain ⟨a1, a2⟩ := a
  obtain ⟨b1, b2⟩ := b
  simp
  omega
theorem dGet_sp (g : Nat × Nat → PyData) (y : Nat × Nat) : ∀ A : List (Nat × Nat), dGet (A.map fun x => (spotD x, g x)) (spotD y) = if y ∈ A then some (g y) else none
  | [] => by rw [List.map_nil, dGet_nil, if_neg (by simp)]
  | a :: A => by
    rw [List.map_cons, dGet_cons, eqv_sp, dGet_sp g y A]
    by_cases e : a = y
    · subst e
      rw [decide_eq_true rfl, if_pos List.mem_cons_self]
      rfl
    · rw [decide_eq_false e]
      show (if y ∈ A then some (g y) else none) = _
      by_cases m : y ∈ A
      · rw [if_pos m, if_pos (List.mem_cons_of_mem _ m)]
      · rw [if_neg m, if_neg (fun q => (List.mem_cons.mp q).elim (fun z => e z.symm) m)]
theorem putD_sp (g : Nat × Nat → PyData) : ∀ (T A : List (Nat × Nat)), T.Nodup → (∀ x ∈ T, x ∉ A) → putD (A.map fun x => (spotD x, g x)) (T.map fun x => (spotD x, g x)) = (A ++ T).map fun x => (spotD x, g x)
  | [], A, _, _ => by rw [List.append_nil]; rfl
  | t :: T, A, hn, hd => by
    obtain ⟨h1, h2⟩ := List.nodup_cons.mp hn
    have e : dPut (A.map fun x => (spotD x, g x)) (spotD t) (g t) = (A ++ [t]).map fun x => (spotD x, g x) := by
      unfold dPut
      rw [dGet_sp, if_neg (hd t List.mem_cons_self), List.map_append]
      rfl
    show putD (dPut _ (spotD t) (g t)) _ = _
    rw [e, putD_sp g T (A ++ [t]) h2 fun x hx m => ?_]
    · rw [List.append_assoc]; rfl
    · rcases List.mem_append.mp m with m | m
      · exact hd x (List.mem_cons_of_mem _ hx) m
      · rw [List.mem_singleton.mp m] at hx
        exact h1 hx
theorem dict_sp (g : Nat × Nat → PyData) {T : List (Nat × Nat)} (hn : T.Nodup) : putD [] (T.map fun x => (spotD x, g x)) = T.map fun x => (spotD x, g x) := putD_sp g T [] hn (by simp)
theorem tkB_sp (g : Nat × Nat → PyData) (T : List (Nat × Nat)) : tkB (T.map fun x => (spotD x, g x)) = true := by
  unfold tkB
  rw [List.all_map, List.all_eq_true]
  intro x _
  rfl
theorem lies_place {w p e : Nat} (he : e < w) : lies w (placeF w p e) = (p, e) := by
  unfold lies placeF liesE
  by_cases c : p % 2 = 0
  · rw [if_pos c]
    have e1 : (p * w + e) / w = p := by rw [Nat.mul_comm, Nat.mul_add_div (by omega), Nat.div_eq_of_lt he]; rfl
    have e2 : (p * w + e) % w = e := by rw [Nat.mul_comm, Nat.mul_add_mod, Nat.mod_eq_of_lt he]
    rw [e1, e2, if_pos c]
  · rw [if_neg c]
    have lt : w - 1 - e < w := by omega
    have e1 : (p * w + (w - 1 - e)) / w = p := by rw [Nat.mul_comm, Nat.mul_add_div (by omega), Nat.div_eq_of_lt lt]; rfl
    have e2 : (p * w + (w - 1 - e)) % w = w - 1 - e := by rw [Nat.mul_comm, Nat.mul_add_mod, Nat.mod_eq_of_lt lt]
    rw [e1, e2, if_neg c]
    congr 1
    omega
theorem walk_nodup {w : Nat} (w1 : 1 ≤ w) (m : Nat) : ((List.range m).map (lies w)).Nodup :=
  List.pairwise_map.mpr (List.nodup_range.imp fun {a b} n e => n (by
    have h := congrArg (fun p : Nat × Nat => placeF w p.1 p.2) e
    simp only [lies, place_lies w1] at h
    exact h))
theorem mem_walk {w m p e : Nat} (w1 : 1 ≤ w) (he : e < w) : (p, e) ∈ (List.range m).map (lies w) ↔ placeF w p e < m := by
  rw [List.mem_map]
  constructor
  · rintro ⟨n, hn, q⟩
    have h := congrArg (fun p : Nat × Nat => placeF w p.1 p.2) q
    simp only [lies, place_lies w1] at h
    rw [← h]
    exact List.mem_range.mp hn
  · exact fun h => ⟨_, List.mem_range.mpr h, lies_place he⟩
def plcD (w : Nat) (p : Nat × Nat) : PyData := .int (placeF w p.1 p.2 : Nat)
def plcs (w m : Nat) : List (PyData × PyData) := ((List.range m).map (lies w)).map fun p => (spotD p, plcD w p)
theorem plcs_dict {w m : Nat} (w1 : 1 ≤ w) : biDict [.list ((List.range m).map fun i => .tuple [spotD (lies w i), .int (i : Nat)])] = some (.n (.dict (plcs w m))) := by
  have e : (List.range m).map (fun i => PyData.tuple [spotD (lies w i), .int (i : Nat)]) = ((List.range m).map (lies w)).map fun p => .tuple [spotD p, plcD w p] := by
    rw [List.map_map]
    refine List.map_congr_left fun i _ => ?_
    show _ = PyData.tuple [spotD (lies w i), plcD w (lies w i)]
    unfold plcD lies
    rw [place_lies w1]
  rw [biDict_l, e, pairsD_map]
  show onee (tkB _) _ = _
  rw [tkB_sp, dict_sp _ (walk_nodup w1 m)]
  rfl
theorem plcs_get {w m p e : Nat} (w1 : 1 ≤ w) (he : e < w) : getV (plcs w m) (.tuple [.int (p : Nat), .int (e : Nat)]) = if placeF w p e < m then .int (placeF w p e : Nat) else .none := by
  unfold getV plcs
  rw [show PyData.tuple [.int (p : Nat), .int (e : Nat)] = spotD (p, e) from rfl, dGet_sp]
  by_cases c : placeF w p e < m
  · rw [if_pos ((mem_walk w1 he).mpr c), if_pos c]
    rfl
  · rw [if_neg fun h => c ((mem_walk w1 he).mp h), if_neg c]
    rfl
theorem plcs_kind {w m p e : Nat} : kindB (plcs w m) (.tuple [.int (p : Nat), .int (e : Nat)]) = true := by
  unfold kindB plcs
  rw [List.map_map, List.all_map, List.all_eq_true]
  intro x _
  rfl
theorem wv_okR {w : Nat} {bs : List Nat} (k : Wv w bs) : OkN 9 2 (wvD w bs) :=
  okN_tup (okNs_cons (okN_int (i := (w : Nat)) (by have := k.w2; omega) (by have := k.w2; omega)) (okNs_cons (okN_tup (okNs_map (n := 1) (d := 0) 6 (fun b hb => okN_int (by have := (k.b b hb).2; omega) (by have := (k.b b hb).2; omega)) k.l2)) okNs_nil))
theorem walk_last {w m : Nat} (h : 1 ≤ m) : opIx (.list (walkL w m)) (.int (-1)) = some (.d (spotD (lies w (m - 1)))) := by
  unfold walkL
  rw [opIx_l]
  unfold atD
  have ix : ixN m (-1) = some (m - 1) := by
    unfold ixN
    rw [if_neg (by omega), if_pos (by omega)]
    congr 1
    omega
  rw [List.length_map, List.length_range, ix]
  have : m - 1 < m := by omega
  simp [this]
theorem cut_walk {w m a b : Nat} (h : a ≤ b) (hb : b < m) : cutD (walkL w m) (some ((a : Nat) : Int)) (some (((b : Nat) : Int) + 1)) = ((List.range' a (b + 1 - a)).map (liesZ w)).map pairD := by
  have wl : (walkL w m).length = m := by unfold walkL; rw [List.length_map, List.length_range]
  have e1 : HT.sIx m 0 (some ((a : Nat) : Int)) = a := by
    simp only [HT.sIx]
    rw [if_neg (by omega)]
    omega
  have e2 : HT.sIx m m (some (((b : Nat) : Int) + 1)) = b + 1 := by
    simp only [HT.sIx]
    rw [if_neg (by omega)]
    omega
  unfold cutD
  rw [wl, e1, e2, List.map_map]
  unfold walkL
  apply List.ext_getElem?
  intro i
  by_cases hi : i < b + 1 - a
  · rw [List.getElem?_take_of_lt hi, List.getElem?_drop, List.getElem?_map, List.getElem?_range (by omega), List.getElem?_map, List.getElem?_range' (by omega)]
    simp
    rfl
  · rw [List.getElem?_eq_none (by simp; omega), List.getElem?_eq_none (by simp; omega)]
theorem pairs_ok {zs : List (Int × Int)} (hl : zs.length ≤ 400) (b : ∀ z ∈ zs, 0 ≤ z.1 ∧ z.1 < 1000 ∧ 0 ≤ z.2 ∧ z.2 < 1000) : okR (.list [.tuple (zs.map pairD), .tuple (zs.map pairD)]) = true := by
  have o : OkN (400 * 3 + 1) 2 (.tuple (zs.map pairD)) := okN_tup (okNs_map (n := 3) (d := 1) 400 (fun z hz => okN_tup (okNs_cons (okN_int (by have := b z hz; omega) (by have := b z hz; omega)) (okNs_cons (okN_int (by have := b z hz; omega) (by have := b z hz; omega)) okNs_nil))) hl)
  exact (okN_list (okNs_cons o (okNs_cons o okNs_nil))).okR (by decide) (by decide)
theorem r_law_right_v12_ok {p : PyData} (hp : Pen p) : ∃ p', r_law_right_v12 [.b p] = .ok (.d (.bool true), some p') ∧ Pen p' := by
  suffices s : (r_law_right_v12 [.b p]).sat fun z => ∃ p', z = (.d (.bool true), some p') ∧ Pen p' by
    obtain ⟨_, e, p', rfl, hp'⟩ := s
    exact ⟨p', e, hp'⟩
  obtain ⟨w, bs, p1, e1, hp1, k⟩ := r_law_weave_ok hp
  have w1 := k.w1
  have w2 := k.w2
  obtain ⟨m, hm⟩ : ∃ m, m = bs.sum := ⟨_, rfl⟩
  have m2 : m ≤ 360 := by
    have := sum_le (bs := bs) fun b hb => (k.b b hb).2
    have := k.l2
    omega
  have m1 : 1 ≤ m := by
    rw [hm]
    cases hb : bs with
    | nil => have := k.l1; rw [hb] at this; simp at this
    | cons b t =>
      have := (k.b b (by rw [hb]; simp)).1
      rw [List.sum_cons]
      omega
  have ow := (wv_okR k).okR (by decide) (by decide)
  have sm := biSum_nats bs
  rw [← hm] at sm
  have wk := r_law_walk_ok (w := w) (n := m) w1 w2 (by omega)
  have iE : ∀ r, iEnK [.list (walkL w m)] r = .ok (enumD (walkL w m), r) := fun _ => rfl
  have en : enumD (walkL w m) = (List.range m).map fun i => .tuple [.int (i : Nat), spotD (lies w i)] := enumD_rngW m fun i => spotD (lies w i)
  have lk : lenOk m = true := lenOk_t (by omega)
  have dc := plcs_dict (w := w) (m := m) w1
  have wl := walk_last (w := w) m1
  have sp : spotD (lies w (m - 1)) = .tuple [.int (((m - 1) / w : Nat) : Int), .int (liesE w (m - 1) : Nat)] := rfl
  obtain ⟨q, hq⟩ : ∃ q, q = (m - 1) / w := ⟨_, rfl⟩
  have q2 : q ≤ 400 := by have := Nat.div_le_self (m - 1) w; omega
  have s0 : opIx (spotD (lies w (m - 1))) (.int 0) = some (.d (.int ((q : Nat) : Int))) := by rw [hq]; rfl
  have lr : lrB 0 ((q : Int) + 4) = true := lrB_t (by decide) (by decide) (by omega) (by omega) (by omega)
  have t4 : ((q : Int) + 4).toNat = q + 4 := by omega
  have l5 : lenOk (q + 4 + 1) = true := lenOk_t (by omega)
  simp! [r_law_right_v12, g_law_right_v12, e1, ow, opIx_wv1, opIx_wv0, sm, wk, iE, en]
  rw [lcL_mapT (e := fun i : Nat => .tuple [.int (i : Nat), spotD (lies w i)]) (fun i => .tuple [spotD (lies w i), .int (i : Nat)]) fun i hi => by simp! []]
  simp! [lk, dc, wl, s0, lr, t4, l5, rng_len]
  simp only [sat_raise_iff, sat_bind_iff]
  refine forL_any (fun r => ∃ (x6 x9 : Option Sl), r = [some (.b p1), some (.d (wvD w bs)), some (.d (.str (wvD w bs).shown)), some (.d (.int (m : Nat))), some (.d (.list (walkL w m))), some (.l (.dict (plcs w m))), x6, none, none, x9, none, none, none, none, none]) ⟨none, none, rfl⟩ ?_ ?_
  · rintro x r hx ⟨x6, x9, rfl⟩
    obtain ⟨pk, rfl, hpk⟩ : ∃ pk : Nat, x = .int ((pk : Nat) : Int) ∧ pk < 10 ^ 15 := by
      rcases List.mem_append.mp hx with h | h
      · rw [rngL_eq] at h
        obtain ⟨i, hi, rfl⟩ := List.mem_map.mp h
        have := List.mem_range.mp hi
        exact ⟨i, rfl, by omega⟩
      · rw [List.mem_singleton.mp h]
        exact ⟨100000000000, rfl, by decide⟩
    simp! [opIx_wv0, Int.toNat_natCast, -forL_cons]
    refine forL_rng (fun _ r => ∃ (x9 : Option Sl), r = [some (.b p1), some (.d (wvD w bs)), some (.d (.str (wvD w bs).shown)), some (.d (.int (m : Nat))), some (.d (.list (walkL w m))), some (.l (.dict (plcs w m))), some (.d (.int ((pk : Nat) : Int))), none, none, x9, none, none, none, none, none]) ⟨_, rfl⟩ ?_ ?_
    · rintro e r he ⟨x9, rfl⟩
      have pa := r_place_at_ok (p := pk) (e := e) k he hpk
      rw [← hm] at pa
      have gt := plcs_get (m := m) (p := pk) w1 he
      have kd := plcs_kind (w := w) (m := m) (p := pk) (e := e)
      have kb : keyB (.tuple [.int (pk : Nat), .int (e : Nat)]) = true := rfl
      generalize plcs w m = D at *
      by_cases c : placeF w pk e < m
      · rw [if_pos c] at pa gt
        have sm := r_law_same_refl (x := .int ((placeF w pk e : Nat) : Int)) ((okN_int (by omega) (by omega)).okR (by decide) (by decide))
        simp! [pa, gt, kd, kb, sm]
        exact ⟨_, rfl⟩
      · rw [if_neg c] at pa gt
        have sm := r_law_same_refl (x := .none) (by decide +kernel)
        simp! [pa, gt, kd, kb, sm]
        exact ⟨_, rfl⟩
    · rintro r ⟨x9, rfl⟩
      exact ⟨_, _, rfl⟩
  · rintro r ⟨x6, x9, rfl⟩
    simp! [-forL_cons]
    simp only [sat_bind_iff]
    refine forL_rng (fun _ r => ∃ (p : PyData) (x7 x10 x11 x12 : Option Sl), r = [some (.b p), some (.d (wvD w bs)), some (.d (.str (wvD w bs).shown)), some (.d (.int (m : Nat))), some (.d (.list (walkL w m))), some (.l (.dict (plcs w m))), x6, x7, none, x9, x10, x11, x12, none, none] ∧ Pen p) ⟨p1, _, _, _, _, rfl, hp1⟩ ?_ ?_
    · rintro i r hi ⟨p, x7, x10, x11, x12, rfl, hp⟩
      obtain ⟨u, p2, e2, hp2, u0, u1⟩ := r_law_draw_ok (m := ((m : Nat) : Int)) hp (by omega) (by omega)
      obtain ⟨v, p3, e3, hp3, v0, v1⟩ := r_law_draw_ok (m := ((m : Nat) : Int) - u) hp2 (by omega) (by omega)
      simp! [e2, e3, -forL_cons]
      refine forL_any (fun r => ∃ (x11 x12 : Option Sl), r = [some (.b p3), some (.d (wvD w bs)), some (.d (.str (wvD w bs).shown)), some (.d (.int (m : Nat))), some (.d (.list (walkL w m))), some (.l (.dict (plcs w m))), x6, some (.d (.int (i : Nat))), none, x9, some (.d (.int u)), x11, x12, none, none]) ⟨_, _, rfl⟩ ?_ ?_
      · rintro x r hx ⟨x11, x12, rfl⟩
        obtain ⟨a, b, rfl, hab, hbm⟩ : ∃ a b : Nat, x = .tuple [.int ((a : Nat) : Int), .int ((b : Nat) : Int)] ∧ a ≤ b ∧ b < m := by
          simp only [List.mem_cons, List.not_mem_nil, or_false] at hx
          rcases hx with rfl | rfl | rfl
          · exact ⟨u.toNat, (u + v).toNat, by rw [Int.toNat_of_nonneg u0, Int.toNat_of_nonneg (by omega)], by omega, by omega⟩
          · exact ⟨u.toNat, u.toNat, by rw [Int.toNat_of_nonneg u0], by omega, by omega⟩
          · exact ⟨0, m - 1, by rw [show ((m - 1 : Nat) : Int) = (m : Int) - 1 by omega]; rfl, by omega, by omega⟩
        have j0 : opIx (.tuple [.int ((a : Nat) : Int), .int ((b : Nat) : Int)]) (.int 0) = some (.d (.int ((a : Nat) : Int))) := rfl
        have j1 : opIx (.tuple [.int ((a : Nat) : Int), .int ((b : Nat) : Int)]) (.int 1) = some (.d (.int ((b : Nat) : Int))) := rfl
        have cw := cut_walk (w := w) hab hbm
        have cv := r_covered_ok k hab (by rw [← hm]; exact hbm)
        have sb := srtB_pairs (ps := (List.range' a (b + 1 - a)).map (liesZ w)) (by rw [List.length_map, List.length_range']; omega)
        have sd := srtD_pairs ((List.range' a (b + 1 - a)).map (liesZ w))
        have ec : ((List.range' a (b + 1 - a)).map (liesZ w)).mergeSort pairLe = covZ w a (b + 1 - a) := rfl
        rw [ec] at sd
        have cl : (covZ w a (b + 1 - a)).length ≤ 400 := by unfold covZ; rw [List.length_mergeSort, List.length_map, List.length_range']; omega
        have sm := r_law_same_refl (pairs_ok cl fun z hz => by
          unfold covZ at hz
          obtain ⟨n, hn, rfl⟩ := List.mem_map.mp (List.mem_mergeSort.mp hz)
          have hn := List.mem_range'_1.mp hn
          have h1 := Nat.div_le_self n w
          have h2 := lies_lt (n := n) w1
          unfold liesZ
          simp only
          generalize n / w = d at *
          omega)
        simp! [j0, j1, sliD_l, cw, cv, sb, sd, sm]
        exact ⟨_, _, rfl⟩
      · rintro r ⟨x11, x12, rfl⟩
        exact ⟨p3, _, _, _, _, rfl, hp3⟩
    · rintro r ⟨p, x7, x10, x11, x12, rfl, hp⟩
      obtain ⟨xs, p', ea, hp', hxs⟩ := r_law_areas_ok hp (w := w) (n := q) w1 w2 q2
      have iX : ∀ r, iSeqK (.d (.list xs)) r = .ok (xs, r) := fun _ => rfl
      have wvb : biRepr [wvD w bs] = some (.d (.str (wvD w bs).shown)) := by rw [biRepr_eq, ow]; rfl
      simp! [opIx_wv0, wl, s0, ea, iX, -forL_cons]
      simp only [sat_bind_iff]
      refine forL_any (fun r => ∃ (x8 x12 : Option Sl), r = [some (.b p'), some (.d (wvD w bs)), some (.d (.str (wvD w bs).shown)), some (.d (.int (m : Nat))), some (.d (.list (walkL w m))), some (.l (.dict (plcs w m))), x6, x7, x8, x9, x10, x11, x12, none, none]) ⟨_, _, rfl⟩ ?_ ?_
      · rintro x r hx ⟨x8, x12, rfl⟩
        obtain ⟨a, b, c, d, rfl, a0, ab, c0, cd, dw⟩ := hxs x hx
        have rr := r_law_runs_ok (w := w) (m := m) (a := a) (b := b) (c := c) (d := d) (by omega)
        have si := r_spans_in_ok k a0 ab c0 cd dw
        rw [← hm] at si
        have bl : (runs (spansL w a b c d m)).length ≤ 400 := by
          refine Nat.le_trans (runs_len _) ?_
          unfold spansL natZ
          rw [List.length_map]
          have := List.length_filter_le (inA w a b c d) (List.range m)
          rw [List.length_range] at this
          omega
        have sm := r_law_same_refl (pairs_ok bl fun z hz => by
          have e : runs (spansL w a b c d m) = (begL (inA w a b c d) m).zip (endL (inA w a b c d) m) := (runs_two (inA w a b c d) m).1
          rw [e] at hz
          obtain ⟨h1, h2⟩ := List.of_mem_zip (a := z.1) (b := z.2) hz
          obtain ⟨i, hi, ei⟩ := List.mem_map.mp h1
          obtain ⟨j, hj, ej⟩ := List.mem_map.mp h2
          have := List.mem_range.mp (List.mem_filter.mp hi).1
          have := List.mem_range.mp (List.mem_filter.mp hj).1
          omega)
        simp! [rr, si, sm]
        exact ⟨_, _, rfl⟩
      · rintro r ⟨x8, x12, rfl⟩
        have es : decide ((wvD w bs).shown = (wvD w bs).shown) = true := decide_eq_true rfl
        simp! [wvb, es]
        exact ⟨p', rfl, hp'⟩
theorem holds_k31 (ns : List Int) (hl : ns.length ≤ 63) : r_k31 [.d (.list (ns.map .int))] = .ok (.d (.bool true), none) := by
  simp! [r_k31, g_k31]
  apply raiseIf_sat_eq
  simp only [sat_bind_iff]
  refine forL_rng (fun i r => ∃ (x1 x2 x3 : Option Sl), r = [some (.d (.list (ns.map .int))), x1, x2, x3]) ⟨_, _, _, rfl⟩ ?_ ?_
  · rintro i r hi ⟨x1, x2, x3, rfl⟩
    obtain ⟨p, e, hp⟩ := r_law_pen_ok (ns := ns) (k := (i : Nat)) (by omega)
    simp! [e, -forL_cons]
    refine forL_rng (fun _ r => ∃ (p : PyData) (x3 : Option Sl), Pen p ∧ r = [some (.d (.list (ns.map .int))), some (.d (.int (i : Nat))), some (.l p), x3]) ⟨p, _, hp, rfl⟩ ?_ ?_
    · rintro j r hj ⟨p, x3, hp, rfl⟩
      obtain ⟨p', e, hp'⟩ := r_law_right_v12_ok hp
      simp! [e]
      exact ⟨p', _, hp', rfl⟩
    · rintro r ⟨p, x3, hp, rfl⟩
      exact ⟨_, _, _, rfl⟩
  · rintro r ⟨x1, x2, x3, rfl⟩
    simp! []

end DL
namespace DL
open PySem PySem.Spec PyProof.Rows L2 Out
def topS (i : Nat) : Stmt := PySem.Challenge.pw_weftmill_k31_picks_spans_and_areas.main.body.getD i (.Pass ⟨0, 0, 0, 0⟩)
section
variable {P : Program} {w : World} {K : PySem.W.Frag} {mg : Str → Option Value} {base : Heap}
abbrev st_is_whole : Stmt := topS 8
theorem sc_is_whole : FnScope ["thing"] ["thing"] (defScope st_is_whole) := ⟨rfl, rfl, rfl, by decide +kernel, rfl, by decide +kernel, by decide +kernel⟩
theorem c_is_whole (D : Def0 K mg "is_whole" st_is_whole ["thing"]) (n_isinstance : mg "isinstance" = none) (n_int : mg "int" = none) (n_bool : mg "bool" = none) :
    Cal P w K mg base 1 "is_whole" ["thing"] (SF r_is_whole) :=
  cal_run D sc_is_whole rfl fun PX f cdv A outer s H EX E hr hg hx hp =>
    (qss_one (qs_ret (qe_and (qe_isi kit_int (by rfl) n_isinstance (qe_var (pv 0)) (pe_bty (by rfl) n_int (by decide +kernel))) (qe_one (qe_not (qe_isi kit_bool (by rfl) n_isinstance (qe_var (pv 0)) (pe_bty (by rfl) n_bool (by decide +kernel))))))))

abbrev st_is_within : Stmt := topS 9
theorem sc_is_within : FnScope ["thing", "least", "most"] ["thing", "least", "most"] (defScope st_is_within) := ⟨rfl, rfl, rfl, by decide +kernel, rfl, by decide +kernel, by decide +kernel⟩
theorem c_is_within (D : Def0 K mg "is_within" st_is_within ["thing", "least", "most"]) (C_is_whole : Cal P w K mg base 1 "is_whole" ["thing"] (SF r_is_whole)) :
    Cal P w K mg base 2 "is_within" ["thing", "least", "most"] (SF r_is_within) :=
  cal_run D sc_is_within rfl fun PX f cdv A outer s H EX E hr hg hx hp =>
    (qss_one (qs_ret (qe_and (qe_cal C_is_whole (hr.mono (by decide)) hg hp hx (by rfl) (qa_cons (qe_fz (qe_var (pv 0))) qa_nil)) (qe_one (qe_chain (pe_chain (op_leU (Room.u66 hr)) (op_leU (Room.u66 hr)) (qe_var (pv 1)) (qe_var (pv 0)) (qe_var (pv 2))) oLeU oLeU opLe_ok opLe_ok)))))

abbrev st_is_from : Stmt := topS 10
theorem sc_is_from : FnScope ["thing", "least"] ["thing", "least"] (defScope st_is_from) := ⟨rfl, rfl, rfl, by decide +kernel, rfl, by decide +kernel, by decide +kernel⟩
theorem c_is_from (D : Def0 K mg "is_from" st_is_from ["thing", "least"]) (C_is_whole : Cal P w K mg base 1 "is_whole" ["thing"] (SF r_is_whole)) :
    Cal P w K mg base 2 "is_from" ["thing", "least"] (SF r_is_from) :=
  cal_run D sc_is_from rfl fun PX f cdv A outer s H EX E hr hg hx hp =>
    (qss_one (qs_ret (qe_and (qe_cal C_is_whole (hr.mono (by decide)) hg hp hx (by rfl) (qa_cons (qe_fz (qe_var (pv 0))) qa_nil)) (qe_one (qe_cmp (op_leU (Room.u66 hr)) oLeU opLe_ok (qe_var (pv 1)) (qe_var (pv 0)) (nomark _))))))

abbrev st_is_long : Stmt := topS 11
theorem sc_is_long : FnScope ["thing", "least", "most"] ["thing", "least", "most"] (defScope st_is_long) := ⟨rfl, rfl, rfl, by decide +kernel, rfl, by decide +kernel, by decide +kernel⟩
theorem c_is_long (D : Def0 K mg "is_long" st_is_long ["thing", "least", "most"]) (n_isinstance : mg "isinstance" = none) (n_tuple : mg "tuple" = none) (n_len : mg "len" = none) :
    Cal P w K mg base 1 "is_long" ["thing", "least", "most"] (SF r_is_long) :=
  cal_run D sc_is_long rfl fun PX f cdv A outer s H EX E hr hg hx hp =>
    (qss_one (qs_ret (qe_and (qe_isi kit_tup (by rfl) n_isinstance (qe_var (pv 0)) (pe_bty (by rfl) n_tuple (by decide +kernel))) (qe_one (qe_chain (pe_chain (op_leU (Room.u66 hr)) (op_leU (Room.u66 hr)) (qe_var (pv 1)) (qe_len (by rfl) n_len (qa_cons (qe_var (pv 0)) qa_nil)) (qe_var (pv 2))) oLeU oLeU opLe_ok opLe_ok)))))

abbrev st_is_weave : Stmt := topS 16
theorem sc_is_weave : FnScope ["thing", "many"] ["thing"] (defScope st_is_weave) := ⟨rfl, rfl, rfl, by decide +kernel, rfl, by decide +kernel, by decide +kernel⟩
theorem c_is_weave (D : Def0 K mg "is_weave" st_is_weave ["thing"]) (n_all : mg "all" = none) {t_MOST_ENDS : Tok} (k_MOST_ENDS : mg "MOST_ENDS" = some (.int 12 t_MOST_ENDS)) {t_MOST_BOBBINS : Tok} (k_MOST_BOBBINS : mg "MOST_BOBBINS" = some (.int 6 t_MOST_BOBBINS)) {t_MOST_YARN : Tok} (k_MOST_YARN : mg "MOST_YARN" = some (.int 60 t_MOST_YARN)) (C_is_long : Cal P w K mg base 1 "is_long" ["thing", "least", "most"] (SF r_is_long)) (C_is_within : Cal P w K mg base 2 "is_within" ["thing", "least", "most"] (SF r_is_within)) :
    Cal P w K mg base 3 "is_weave" ["thing"] (SF r_is_weave) :=
  cal_run D sc_is_weave rfl fun PX f cdv A outer s H EX E hr hg hx hp =>
    (qss_cons (qs_if (qt_w (qw_or (qt_not (qt_val (pt_val (qe_cal C_is_long (hr.mono (by decide)) hg hp hx (by rfl) (qa_cons (qe_fz (qe_var (pv 0))) (qa_cons (qe_fz qe_int) (qa_cons (qe_fz qe_int) qa_nil))))))) (qw_or (qt_not (qt_val (pt_val (qe_cal C_is_within (hr.mono (by decide)) hg hp hx (by rfl) (qa_cons (qe_fz (qe_ix (qe_var (pv 0)) qe_int)) (qa_cons (qe_fz qe_int) (qa_cons (qe_fz (qe_c (pe_glob (v := .int 12) rfl k_MOST_ENDS ⟨_, rfl⟩) fun _ => .int _)) qa_nil))))))) (qw_or1 (qt_not (qt_val (pt_val (qe_cal C_is_long (hr.mono (by decide)) hg hp hx (by rfl) (qa_cons (qe_fz (qe_ix (qe_var (pv 0)) qe_int)) (qa_cons (qe_fz qe_int) (qa_cons (qe_fz (qe_c (pe_glob (v := .int 6) rfl k_MOST_BOBBINS ⟨_, rfl⟩) fun _ => .int _)) qa_nil)))))))))))
    (qss_one (qs_ret qe_bl))
    qss_nil)
    (qss_one (qs_ret (qe_all rfl (by rfl) n_all (qa_cons (qe_fz (qe_lc rfl sc_is_weave.nd (qi_seq (qe_ix (qe_var (pv 0)) qe_int)) (blkOk_by (own := [("many", 1)]) (by kernel_rfl)) (qct_name (by decide)) (fun _ _ _ _ _ => (pg_name (i := 1) sc_is_weave.nd rfl (Or.inl rfl))) (fun _ _ _ _ _ => qpts_nil) (fun _ _ _ _ _ => (qe_cal C_is_within (hr.mono (by decide)) hg passL rok0 (by rfl) (qa_cons (qe_fz (qe_var (pv 1))) (qa_cons (qe_fz qe_int) (qa_cons (qe_fz (qe_c (pe_glob (v := .int 60) rfl k_MOST_YARN ⟨_, rfl⟩) fun _ => .int _)) qa_nil))))))) qa_nil)))))

abbrev st_need_weave : Stmt := topS 17
theorem sc_need_weave : FnScope ["thing"] ["thing"] (defScope st_need_weave) := ⟨rfl, rfl, rfl, by decide +kernel, rfl, by decide +kernel, by decide +kernel⟩
theorem c_need_weave (D : Def0 K mg "need_weave" st_need_weave ["thing"]) (C_is_weave : Cal P w K mg base 3 "is_weave" ["thing"] (SF r_is_weave)) :
    Cal P w K mg base 4 "need_weave" ["thing"] (SF r_need_weave) :=
  cal_run D sc_need_weave rfl fun PX f cdv A outer s H EX E hr hg hx hp =>
    (qss_one (qs_if (qt_not (qt_val (pt_val (qe_cal C_is_weave (hr.mono (by decide)) hg hp hx (by rfl) (qa_cons (qe_fz (qe_var (pv 0))) qa_nil)))))
    (qss_one qs_never)
    qss_nil))

abbrev st_many_places : Stmt := topS 18
theorem sc_many_places : FnScope ["weave"] ["weave"] (defScope st_many_places) := ⟨rfl, rfl, rfl, by decide +kernel, rfl, by decide +kernel, by decide +kernel⟩
theorem c_many_places (D : Def0 K mg "many_places" st_many_places ["weave"]) (n_sum : mg "sum" = none) :
    Cal P w K mg base 1 "many_places" ["weave"] (SF r_many_places) :=
  cal_run D sc_many_places rfl fun PX f cdv A outer s H EX E hr hg hx hp =>
    (qss_one (qs_ret (qe_sum rfl (by rfl) n_sum (qa_cons (qe_fz (qe_ix (qe_var (pv 0)) qe_int)) qa_nil))))

abbrev st_lies_by : Stmt := topS 19
theorem sc_lies_by : FnScope ["width", "place", "pick", "along"] ["width", "place"] (defScope st_lies_by) := ⟨rfl, rfl, rfl, by decide +kernel, rfl, by decide +kernel, by decide +kernel⟩
theorem c_lies_by (D : Def0 K mg "lies_by" st_lies_by ["width", "place"]) (n_divmod : mg "divmod" = none) :
    Cal P w K mg base 1 "lies_by" ["width", "place"] (SF r_lies_by) :=
  cal_run D sc_lies_by rfl fun PX f cdv A outer s H EX E hr hg hx hp =>
    (qss_cons (qs_asg (ps_asg (qe_fz (qe_divmod (by rfl) n_divmod (qa_cons (qe_var (pv 1)) (qa_cons (qe_var (pv 0)) qa_nil)))) (qg_tup (pg_tup rfl (qgs_cons (qg_name (pg_name (i := 2) sc_lies_by.nd rfl (Or.inl rfl))) (qgs_cons (qg_name (pg_name (i := 3) sc_lies_by.nd rfl (Or.inl rfl))) qgs_nil))))))
    (qss_one (qs_ret (qe_tup (qf_cons (qe_var (pv 2)) (qf_cons (qe_if (qt_cmp (op_eqU hr.units) opB_eqU opEq_ok (qe_mod (qe_var (pv 2)) qe_int) qe_int (nomark _)) (qe_var (pv 3)) (qe_sub (qe_sub (qe_var (pv 0)) qe_int) (qe_var (pv 3)))) qf_nil))))))

abbrev st_place_at : Stmt := topS 20
theorem sc_place_at : FnScope ["weave", "pick", "end", "width", "place"] ["weave", "pick", "end"] (defScope st_place_at) := ⟨rfl, rfl, rfl, by decide +kernel, rfl, by decide +kernel, by decide +kernel⟩
theorem c_place_at (D : Def0 K mg "place_at" st_place_at ["weave", "pick", "end"]) (C_need_weave : Cal P w K mg base 4 "need_weave" ["thing"] (SF r_need_weave)) (C_is_from : Cal P w K mg base 2 "is_from" ["thing", "least"] (SF r_is_from)) (C_is_within : Cal P w K mg base 2 "is_within" ["thing", "least", "most"] (SF r_is_within)) (C_many_places : Cal P w K mg base 1 "many_places" ["weave"] (SF r_many_places)) :
    Cal P w K mg base 5 "place_at" ["weave", "pick", "end"] (SF r_place_at) :=
  cal_run D sc_place_at rfl fun PX f cdv A outer s H EX E hr hg hx hp =>
    (qss_cons (qs_expr (qe_cal C_need_weave (hr.mono (by decide)) hg hp hx (by rfl) (qa_cons (qe_fz (qe_var (pv 0))) qa_nil)))
    (qss_cons (qs_if (qt_not (qt_val (pt_val (qe_cal C_is_from (hr.mono (by decide)) hg hp hx (by rfl) (qa_cons (qe_fz (qe_var (pv 1))) (qa_cons (qe_fz qe_int) qa_nil))))))
    (qss_one qs_never)
    qss_nil)
    (qss_cons (qs_set (ps_set (i := 3) sc_place_at.nd rfl (Or.inl rfl) (qe_ix (qe_var (pv 0)) qe_int)))
    (qss_cons (qs_if (qt_not (qt_val (pt_val (qe_cal C_is_within (hr.mono (by decide)) hg hp hx (by rfl) (qa_cons (qe_fz (qe_var (pv 2))) (qa_cons (qe_fz qe_int) (qa_cons (qe_fz (qe_sub (qe_var (pv 3)) qe_int)) qa_nil)))))))
    (qss_one qs_never)
    qss_nil)
    (qss_cons (qs_set (ps_set (i := 4) sc_place_at.nd rfl (Or.inl rfl) (qe_add (qe_mul (qe_var (pv 1)) (qe_var (pv 3))) (qe_if (qt_cmp (op_eqU hr.units) opB_eqU opEq_ok (qe_mod (qe_var (pv 1)) qe_int) qe_int (nomark _)) (qe_var (pv 2)) (qe_sub (qe_sub (qe_var (pv 3)) qe_int) (qe_var (pv 2)))))))
    (qss_one (qs_ret (qe_if (qt_cmp (op_ltU (Room.u66 hr)) oLtU opLt_ok (qe_var (pv 4)) (qe_cal C_many_places (hr.mono (by decide)) hg hp hx (by rfl) (qa_cons (qe_fz (qe_var (pv 0))) qa_nil)) (nomark _)) (qe_var (pv 4)) qe_non))))))))

abbrev st_is_span : Stmt := topS 21
theorem sc_is_span : FnScope ["weave", "thing", "place"] ["weave", "thing"] (defScope st_is_span) := ⟨rfl, rfl, rfl, by decide +kernel, rfl, by decide +kernel, by decide +kernel⟩
theorem c_is_span (D : Def0 K mg "is_span" st_is_span ["weave", "thing"]) (n_all : mg "all" = none) (C_is_long : Cal P w K mg base 1 "is_long" ["thing", "least", "most"] (SF r_is_long)) (C_is_within : Cal P w K mg base 2 "is_within" ["thing", "least", "most"] (SF r_is_within)) (C_many_places : Cal P w K mg base 1 "many_places" ["weave"] (SF r_many_places)) :
    Cal P w K mg base 3 "is_span" ["weave", "thing"] (SF r_is_span) :=
  cal_run D sc_is_span rfl fun PX f cdv A outer s H EX E hr hg hx hp =>
    (qss_cons (qs_if (qt_w (qw_or (qt_not (qt_val (pt_val (qe_cal C_is_long (hr.mono (by decide)) hg hp hx (by rfl) (qa_cons (qe_fz (qe_var (pv 1))) (qa_cons (qe_fz qe_int) (qa_cons (qe_fz qe_int) qa_nil))))))) (qw_or1 (qt_not (qt_val (pt_val (qe_all rfl (by rfl) n_all (qa_cons (qe_fz (qe_lc rfl sc_is_span.nd (qi_seq (qe_var (pv 1))) (blkOk_by (own := [("place", 2)]) (by kernel_rfl)) (qct_name (by decide)) (fun _ _ _ _ _ => (pg_name (i := 2) sc_is_span.nd rfl (Or.inl rfl))) (fun _ _ _ _ _ => qpts_nil) (fun _ _ _ _ _ => (qe_cal C_is_within (hr.mono (by decide)) hg passL rok0 (by rfl) (qa_cons (qe_fz (qe_var (pv 2))) (qa_cons (qe_fz qe_int) (qa_cons (qe_fz (qe_sub (qe_cal C_many_places (hr.mono (by decide)) hg passL rok0 (by rfl) (qa_cons (qe_fz (qe_var (pv 0))) qa_nil)) qe_int)) qa_nil))))))) qa_nil))))))))
    (qss_one (qs_ret qe_bl))
    qss_nil)
    (qss_one (qs_ret (qe_cmp (op_leU (Room.u66 hr)) oLeU opLe_ok (qe_ix (qe_var (pv 1)) qe_int) (qe_ix (qe_var (pv 1)) qe_int) (nomark _)))))

abbrev st_covered : Stmt := topS 22
theorem sc_covered : FnScope ["weave", "span", "place"] ["weave", "span"] (defScope st_covered) := ⟨rfl, rfl, rfl, by decide +kernel, rfl, by decide +kernel, by decide +kernel⟩
theorem c_covered (D : Def0 K mg "covered" st_covered ["weave", "span"]) (n_tuple : mg "tuple" = none) (n_sorted : mg "sorted" = none) (n_range : mg "range" = none) (C_need_weave : Cal P w K mg base 4 "need_weave" ["thing"] (SF r_need_weave)) (C_is_span : Cal P w K mg base 3 "is_span" ["weave", "thing"] (SF r_is_span)) (C_lies_by : Cal P w K mg base 1 "lies_by" ["width", "place"] (SF r_lies_by)) :
    Cal P w K mg base 5 "covered" ["weave", "span"] (SF r_covered) :=
  cal_run D sc_covered rfl fun PX f cdv A outer s H EX E hr hg hx hp =>
    (qss_cons (qs_expr (qe_cal C_need_weave (hr.mono (by decide)) hg hp hx (by rfl) (qa_cons (qe_fz (qe_var (pv 0))) qa_nil)))
    (qss_cons (qs_if (qt_not (qt_val (pt_val (qe_cal C_is_span (hr.mono (by decide)) hg hp hx (by rfl) (qa_cons (qe_fz (qe_var (pv 0))) (qa_cons (qe_fz (qe_var (pv 1))) qa_nil))))))
    (qss_one qs_never)
    qss_nil)
    (qss_one (qs_ret (qe_tuple (by rfl) n_tuple (qa_cons (qe_fz (qe_sorted hr (by rfl) n_sorted (qa_cons (qe_fz (qe_lc rfl sc_covered.nd (qi_range2 (by rfl) n_range (qf_cons (qe_ix (qe_var (pv 1)) qe_int) (qf_cons (qe_add (qe_ix (qe_var (pv 1)) qe_int) qe_int) qf_nil))) (blkOk_by (own := [("place", 2)]) (by kernel_rfl)) (qct_name (by decide)) (fun _ _ _ _ _ => (pg_name (i := 2) sc_covered.nd rfl (Or.inl rfl))) (fun _ _ _ _ _ => qpts_nil) (fun _ _ _ _ _ => (qe_cal C_lies_by (hr.mono (by decide)) hg passL rok0 (by rfl) (qa_cons (qe_fz (qe_ix (qe_var (pv 0)) qe_int)) (qa_cons (qe_fz (qe_var (pv 2))) qa_nil)))))) qa_nil))) qa_nil))))))

abbrev st_is_area : Stmt := topS 23
theorem sc_is_area : FnScope ["weave", "thing", "pick", "end"] ["weave", "thing"] (defScope st_is_area) := ⟨rfl, rfl, rfl, by decide +kernel, rfl, by decide +kernel, by decide +kernel⟩
theorem c_is_area (D : Def0 K mg "is_area" st_is_area ["weave", "thing"]) (n_all : mg "all" = none) (C_is_long : Cal P w K mg base 1 "is_long" ["thing", "least", "most"] (SF r_is_long)) (C_is_within : Cal P w K mg base 2 "is_within" ["thing", "least", "most"] (SF r_is_within)) (C_is_from : Cal P w K mg base 2 "is_from" ["thing", "least"] (SF r_is_from)) :
    Cal P w K mg base 3 "is_area" ["weave", "thing"] (SF r_is_area) :=
  cal_run D sc_is_area rfl fun PX f cdv A outer s H EX E hr hg hx hp =>
    (qss_cons (qs_if (qt_w (qw_or (qt_not (qt_val (pt_val (qe_cal C_is_long (hr.mono (by decide)) hg hp hx (by rfl) (qa_cons (qe_fz (qe_var (pv 1))) (qa_cons (qe_fz qe_int) (qa_cons (qe_fz qe_int) qa_nil))))))) (qw_or1 (qt_not (qt_val (pt_val (qe_all rfl (by rfl) n_all (qa_cons (qe_fz (qe_lc rfl sc_is_area.nd (qi_seq (qe_slice (qe_var (pv 1)) qo_none (qo_some qe_int))) (blkOk_by (own := [("pick", 2)]) (by kernel_rfl)) (qct_name (by decide)) (fun _ _ _ _ _ => (pg_name (i := 2) sc_is_area.nd rfl (Or.inl rfl))) (fun _ _ _ _ _ => qpts_nil) (fun _ _ _ _ _ => (qe_cal C_is_from (hr.mono (by decide)) hg passL rok0 (by rfl) (qa_cons (qe_fz (qe_var (pv 2))) (qa_cons (qe_fz qe_int) qa_nil)))))) qa_nil))))))))
    (qss_one (qs_ret qe_bl))
    qss_nil)
    (qss_cons (qs_if (qt_not (qt_val (pt_val (qe_all rfl (by rfl) n_all (qa_cons (qe_fz (qe_lc rfl sc_is_area.nd (qi_seq (qe_slice (qe_var (pv 1)) (qo_some qe_int) qo_none)) (blkOk_by (own := [("end", 3)]) (by kernel_rfl)) (qct_name (by decide)) (fun _ _ _ _ _ => (pg_name (i := 3) sc_is_area.nd rfl (Or.inl rfl))) (fun _ _ _ _ _ => qpts_nil) (fun _ _ _ _ _ => (qe_cal C_is_within (hr.mono (by decide)) hg passL rok0 (by rfl) (qa_cons (qe_fz (qe_var (pv 3))) (qa_cons (qe_fz qe_int) (qa_cons (qe_fz (qe_sub (qe_ix (qe_var (pv 0)) qe_int) qe_int)) qa_nil))))))) qa_nil)))))
    (qss_one (qs_ret qe_bl))
    qss_nil)
    (qss_one (qs_ret (qe_and (qe_cmp (op_leU (Room.u66 hr)) oLeU opLe_ok (qe_ix (qe_var (pv 1)) qe_int) (qe_ix (qe_var (pv 1)) qe_int) (nomark _)) (qe_one (qe_cmp (op_leU (Room.u66 hr)) oLeU opLe_ok (qe_ix (qe_var (pv 1)) qe_int) (qe_ix (qe_var (pv 1)) qe_int) (nomark _))))))))

abbrev st_runs_of : Stmt := topS 24
theorem sc_runs_of : FnScope ["places", "found", "place"] ["places"] (defScope st_runs_of) := ⟨rfl, rfl, rfl, by decide +kernel, rfl, by decide +kernel, by decide +kernel⟩
theorem c_runs_of (D : Def0 K mg "runs_of" st_runs_of ["places"]) (n_tuple : mg "tuple" = none) :
    Cal P w K mg base 1 "runs_of" ["places"] (SF r_runs_of) :=
  cal_run D sc_runs_of rfl fun PX f cdv A outer s H EX E hr hg hx hp =>
    (qss_cons (qs_set (ps_set (i := 1) sc_runs_of.nd rfl (Or.inl rfl) (qe_lst qf_nil)))
    (qss_cons (qs_for (ps_for (passes_of rfl) rfl (qi_seq (qe_var (pv 0))) (qg_name (pg_name (i := 2) sc_runs_of.nd rfl (Or.inl rfl)))
    (qss_one (qs_if (qt_w (qw_and (qt_cmp (op_neU hr.units) opB_neU opNe_ok (qe_var (pv 1)) (qe_lst qf_nil) (nomark _)) (qw_and1 (qt_cmp (op_eqU hr.units) opB_eqU opEq_ok (qe_ix (qe_ix (qe_var (pv 1)) (qe_neg qe_int)) qe_int) (qe_sub (qe_var (pv 2)) qe_int) (nomark _)))))
    (qss_one (qs_put (ps_asg (de_fz (qe_tup (qf_cons (qe_ix (qe_ix (qe_var (pv 1)) (qe_neg qe_int)) qe_int) (qf_cons (qe_var (pv 2)) qf_nil)))) (pg_sub (pv 1) (qe_neg qe_int) set_list))))
    (qss_one (qs_app (ps_expr (pe_bm PySem.F.plainAttrs_list PySem.F.slot_list_append PySem.F.type_list_append mt_append (pv 1) (qf_cons (qe_tup (qf_cons (qe_var (pv 2)) (qf_cons (qe_var (pv 2)) qf_nil))) qf_nil)))))))))
    (qss_one (qs_ret (qe_tuple (by rfl) n_tuple (qa_cons (qe_var (pv 1)) qa_nil))))))

abbrev st_spans_in : Stmt := topS 25
theorem sc_spans_in : FnScope ["weave", "area", "low", "high", "left", "right", "some", "place", "pick", "end"] ["weave", "area"] (defScope st_spans_in) := ⟨rfl, rfl, rfl, by decide +kernel, rfl, by decide +kernel, by decide +kernel⟩
theorem c_spans_in (D : Def0 K mg "spans_in" st_spans_in ["weave", "area"]) (n_range : mg "range" = none) (C_need_weave : Cal P w K mg base 4 "need_weave" ["thing"] (SF r_need_weave)) (C_runs_of : Cal P w K mg base 1 "runs_of" ["places"] (SF r_runs_of)) (C_is_area : Cal P w K mg base 3 "is_area" ["weave", "thing"] (SF r_is_area)) (C_many_places : Cal P w K mg base 1 "many_places" ["weave"] (SF r_many_places)) (C_lies_by : Cal P w K mg base 1 "lies_by" ["width", "place"] (SF r_lies_by)) :
    Cal P w K mg base 5 "spans_in" ["weave", "area"] (SF r_spans_in) :=
  cal_run D sc_spans_in rfl fun PX f cdv A outer s H EX E hr hg hx hp =>
    (qss_cons (qs_expr (qe_cal C_need_weave (hr.mono (by decide)) hg hp hx (by rfl) (qa_cons (qe_fz (qe_var (pv 0))) qa_nil)))
    (qss_cons (qs_if (qt_not (qt_val (pt_val (qe_cal C_is_area (hr.mono (by decide)) hg hp hx (by rfl) (qa_cons (qe_fz (qe_var (pv 0))) (qa_cons (qe_fz (qe_var (pv 1))) qa_nil))))))
    (qss_one qs_never)
    qss_nil)
    (qss_cons (qs_asg (ps_asg (qe_fz (qe_var (pv 1))) (qg_tup (pg_tup rfl (qgs_cons (qg_name (pg_name (i := 2) sc_spans_in.nd rfl (Or.inl rfl))) (qgs_cons (qg_name (pg_name (i := 3) sc_spans_in.nd rfl (Or.inl rfl))) (qgs_cons (qg_name (pg_name (i := 4) sc_spans_in.nd rfl (Or.inl rfl))) (qgs_cons (qg_name (pg_name (i := 5) sc_spans_in.nd rfl (Or.inl rfl))) qgs_nil))))))))
    (qss_cons (qs_set (ps_set (i := 6) sc_spans_in.nd rfl (Or.inl rfl) (qe_lst qf_nil)))
    (qss_cons (qs_for (ps_for (passes_of rfl) rfl (qi_range1 (by rfl) n_range (qf_cons (qe_cal C_many_places (hr.mono (by decide)) hg hp hx (by rfl) (qa_cons (qe_fz (qe_var (pv 0))) qa_nil)) qf_nil)) (qg_name (pg_name (i := 7) sc_spans_in.nd rfl (Or.inl rfl)))
    (qss_cons (qs_asg (ps_asg (qe_fz (qe_cal C_lies_by (hr.mono (by decide)) hg hp hx (by rfl) (qa_cons (qe_fz (qe_ix (qe_var (pv 0)) qe_int)) (qa_cons (qe_fz (qe_var (pv 7))) qa_nil)))) (qg_tup (pg_tup rfl (qgs_cons (qg_name (pg_name (i := 8) sc_spans_in.nd rfl (Or.inl rfl))) (qgs_cons (qg_name (pg_name (i := 9) sc_spans_in.nd rfl (Or.inl rfl))) qgs_nil))))))
    (qss_one (qs_if (qt_w (qw_and (qt_chain (pt_chain (op_leU (Room.u66 hr)) (op_leU (Room.u66 hr)) (qe_var (pv 2)) (qe_var (pv 8)) (qe_var (pv 3))) oLeU oLeU opLe_ok opLe_ok) (qw_and1 (qt_chain (pt_chain (op_leU (Room.u66 hr)) (op_leU (Room.u66 hr)) (qe_var (pv 4)) (qe_var (pv 9)) (qe_var (pv 5))) oLeU oLeU opLe_ok opLe_ok))))
    (qss_one (qs_app (ps_expr (pe_bm PySem.F.plainAttrs_list PySem.F.slot_list_append PySem.F.type_list_append mt_append (pv 6) (qf_cons (qe_var (pv 7)) qf_nil)))))
    qss_nil)))))
    (qss_one (qs_ret (qe_cal C_runs_of (hr.mono (by decide)) hg hp hx (by rfl) (qa_cons (qe_fz (qe_var (pv 6))) qa_nil)))))))))

abbrev st_law_cell_at : Stmt := topS 27
theorem sc_law_cell_at : FnScope ["_law_script", "_law_k"] ["_law_script", "_law_k"] (defScope st_law_cell_at) := ⟨rfl, rfl, rfl, by decide +kernel, rfl, by decide +kernel, by decide +kernel⟩
theorem c_law_cell_at (D : Def0 K mg "_law_cell_at" st_law_cell_at ["_law_script", "_law_k"]) (n_len : mg "len" = none) :
    Cal P w K mg base 1 "_law_cell_at" ["_law_script", "_law_k"] (SF r_law_cell_at) :=
  cal_run D sc_law_cell_at rfl fun PX f cdv A outer s H EX E hr hg hx hp =>
    (qss_cons (qs_if (qt_cmp (op_ltU (Room.u66 hr)) oLtU opLt_ok (qe_var (pv 1)) (qe_len (by rfl) n_len (qa_cons (qe_var (pv 0)) qa_nil)) (nomark _))
    (qss_one (qs_ret (qe_ix (qe_var (pv 0)) (qe_var (pv 1)))))
    qss_nil)
    (qss_one (qs_ret qe_int)))

abbrev st_law_pen : Stmt := topS 28
theorem sc_law_pen : FnScope ["_law_script", "_law_k", "_law_cell"] ["_law_script", "_law_k"] (defScope st_law_pen) := ⟨rfl, rfl, rfl, by decide +kernel, rfl, by decide +kernel, by decide +kernel⟩
theorem c_law_pen (D : Def0 K mg "_law_pen" st_law_pen ["_law_script", "_law_k"]) (n_max : mg "max" = none) (C_law_cell_at : Cal P w K mg base 1 "_law_cell_at" ["_law_script", "_law_k"] (SF r_law_cell_at)) :
    Cal P w K mg base 2 "_law_pen" ["_law_script", "_law_k"] (SF r_law_pen) :=
  cal_run D sc_law_pen rfl fun PX f cdv A outer s H EX E hr hg hx hp =>
    (qss_cons (qs_set (ps_set (i := 2) sc_law_pen.nd rfl (Or.inl rfl) (qe_cal C_law_cell_at (hr.mono (by decide)) hg hp hx (by rfl) (qa_cons (qe_fz (qe_var (pv 0))) (qa_cons (qe_fz (qe_var (pv 1))) qa_nil)))))
    (qss_one (qs_ret (qe_lst (qf_cons (qe_max2 rfl (by rfl) n_max (qa_cons (qe_fz qe_int) (qa_cons (qe_fz (qe_sub (qe_var (pv 2)) (qe_pow qe_int qe_int))) qa_nil))) (qf_cons (qe_add (qe_mod (qe_var (pv 2)) qe_int) qe_int) (qf_cons qe_int qf_nil)))))))

abbrev st_law_draw : Stmt := topS 29
theorem sc_law_draw : FnScope ["_law_pen_here", "_law_many", "_law_stirred", "_law_found"] ["_law_pen_here", "_law_many"] (defScope st_law_draw) := ⟨rfl, rfl, rfl, by decide +kernel, rfl, by decide +kernel, by decide +kernel⟩
theorem c_law_draw (D : Def0 K mg "_law_draw" st_law_draw ["_law_pen_here", "_law_many"])  :
    Cal P w K mg base 1 "_law_draw" ["_law_pen_here", "_law_many"] (SF r_law_draw) :=
  cal_run D sc_law_draw rfl fun PX f cdv A outer s H EX E hr hg hx hp =>
    (qss_cons (qs_if (qt_cmp (op_gtU (Room.u66 hr)) oGtU opGt_ok (qe_ix (qe_var (pv 0)) qe_int) qe_int (nomark _))
    (qss_cons (qs_set (ps_set (i := 3) sc_law_draw.nd rfl (Or.inl rfl) (qe_mod (qe_ix (qe_var (pv 0)) qe_int) (qe_var (pv 1)))))
    (qss_cons (qs_put (ps_asg (de_fz (qe_div (qe_ix (qe_var (pv 0)) qe_int) (qe_var (pv 1)))) (pg_sub (pv 0) qe_int set_list)))
    (qss_one (qs_ret (qe_var (pv 3))))))
    qss_nil)
    (qss_cons (qs_put (ps_asg (de_fz (qe_add (qe_ix (qe_var (pv 0)) qe_int) qe_int)) (pg_sub (pv 0) qe_int set_list)))
    (qss_cons (qs_put (ps_asg (de_fz (qe_mod (qe_add (qe_add (qe_mul (qe_ix (qe_var (pv 0)) qe_int) qe_int) (qe_mul qe_int (qe_ix (qe_var (pv 0)) qe_int))) qe_int) qe_int)) (pg_sub (pv 0) qe_int set_list)))
    (qss_cons (qs_set (ps_set (i := 2) sc_law_draw.nd rfl (Or.inl rfl) (qe_mod (qe_add (qe_add (qe_mul (qe_ix (qe_var (pv 0)) qe_int) (qe_ix (qe_var (pv 0)) qe_int)) (qe_mul qe_int (qe_ix (qe_var (pv 0)) qe_int))) qe_int) qe_int)))
    (qss_cons (qs_set (ps_set (i := 2) sc_law_draw.nd rfl (Or.inl rfl) (qe_mod (qe_add (qe_mul (qe_var (pv 2)) (qe_var (pv 2))) (qe_mul qe_int (qe_var (pv 2)))) qe_int)))
    (qss_one (qs_ret (qe_mod (qe_div (qe_var (pv 2)) qe_int) (qe_var (pv 1))))))))))

abbrev st_law_pick : Stmt := topS 30
theorem sc_law_pick : FnScope ["_law_pen_here", "_law_some"] ["_law_pen_here", "_law_some"] (defScope st_law_pick) := ⟨rfl, rfl, rfl, by decide +kernel, rfl, by decide +kernel, by decide +kernel⟩
theorem c_law_pick (D : Def0 K mg "_law_pick" st_law_pick ["_law_pen_here", "_law_some"]) (n_len : mg "len" = none) (C_law_draw : Cal P w K mg base 1 "_law_draw" ["_law_pen_here", "_law_many"] (SF r_law_draw)) :
    Cal P w K mg base 2 "_law_pick" ["_law_pen_here", "_law_some"] (SF r_law_pick) :=
  cal_run D sc_law_pick rfl fun PX f cdv A outer s H EX E hr hg hx hp =>
    (qss_one (qs_ret (qe_ix (qe_var (pv 1)) (qe_cal C_law_draw (hr.mono (by decide)) hg hp hx (by rfl) (qa_cons (qe_var (pv 0)) (qa_cons (qe_fz (qe_len (by rfl) n_len (qa_cons (qe_var (pv 1)) qa_nil))) qa_nil))))))

abbrev st_law_same : Stmt := topS 31
theorem sc_law_same : FnScope ["_law_found", "_law_owed"] ["_law_found", "_law_owed"] (defScope st_law_same) := ⟨rfl, rfl, rfl, by decide +kernel, rfl, by decide +kernel, by decide +kernel⟩
theorem c_law_same (D : Def0 K mg "_law_same" st_law_same ["_law_found", "_law_owed"]) (n_repr : mg "repr" = none) :
    Cal P w K mg base 1 "_law_same" ["_law_found", "_law_owed"] (SF r_law_same) :=
  cal_run D sc_law_same rfl fun PX f cdv A outer s H EX E hr hg hx hp =>
    (qss_one (qs_ret (qe_cmp (op_eqU hr.units) opB_eqU opEq_ok (qe_repr hg (Room.u66 hr) (by rfl) n_repr (qa_cons (qe_var (pv 0)) qa_nil)) (qe_repr hg (Room.u66 hr) (by rfl) n_repr (qa_cons (qe_var (pv 1)) qa_nil)) (nomark _))))

abbrev st_law_weave : Stmt := topS 32
theorem sc_law_weave : FnScope ["_law_pen_here", "_law_width", "_law_bobbins", "_law_lap"] ["_law_pen_here"] (defScope st_law_weave) := ⟨rfl, rfl, rfl, by decide +kernel, rfl, by decide +kernel, by decide +kernel⟩
theorem c_law_weave (D : Def0 K mg "_law_weave" st_law_weave ["_law_pen_here"]) (n_range : mg "range" = none) (n_tuple : mg "tuple" = none) (C_law_draw : Cal P w K mg base 1 "_law_draw" ["_law_pen_here", "_law_many"] (SF r_law_draw)) (C_law_pick : Cal P w K mg base 2 "_law_pick" ["_law_pen_here", "_law_some"] (SF r_law_pick)) :
    Cal P w K mg base 3 "_law_weave" ["_law_pen_here"] (SF r_law_weave) :=
  cal_run D sc_law_weave rfl fun PX f cdv A outer s H EX E hr hg hx hp =>
    (qss_cons (qs_par (ps_par (i := 1) (j := 2) rfl sc_law_weave.nd rfl rfl (by decide) rfl rfl (qm_cons (qe_add qe_int (qe_cal C_law_draw (hr.mono (by decide)) hg hp hx (by rfl) (qa_cons (qe_var (pv 0)) (qa_cons (qe_fz qe_int) qa_nil)))) (qm_cons (qe_lst qf_nil) qm_nil)) (by rfl)))
    (qss_cons (qs_for (ps_for (passes_of rfl) rfl (qi_range1 (by rfl) n_range (qf_cons (qe_add qe_int (qe_cal C_law_draw (hr.mono (by decide)) hg hp hx (by rfl) (qa_cons (qe_var (pv 0)) (qa_cons (qe_fz qe_int) qa_nil)))) qf_nil)) (qg_name (pg_name (i := 3) sc_law_weave.nd rfl (Or.inl rfl)))
    (qss_one (qs_app (ps_expr (pe_bm PySem.F.plainAttrs_list PySem.F.slot_list_append PySem.F.type_list_append mt_append (pv 2) (qf_cons (qe_add qe_int (qe_cal C_law_draw (hr.mono (by decide)) hg hp hx (by rfl) (qa_cons (qe_var (pv 0)) (qa_cons (qe_fz (qe_cal C_law_pick (hr.mono (by decide)) hg hp hx (by rfl) (qa_cons (qe_var (pv 0)) (qa_cons (qe_fz (qe_lst (qf_cons qe_int (qf_cons qe_int (qf_cons qe_int qf_nil))))) qa_nil)))) qa_nil)))) qf_nil)))))))
    (qss_one (qs_ret (qe_tup (qf_cons (qe_var (pv 1)) (qf_cons (qe_tuple (by rfl) n_tuple (qa_cons (qe_var (pv 2)) qa_nil)) qf_nil)))))))

abbrev st_law_walk : Stmt := topS 33
theorem sc_law_walk : FnScope ["_law_width", "_law_many", "_law_found", "_law_pick_here", "_law_end", "_law_way", "_law_place"] ["_law_width", "_law_many"] (defScope st_law_walk) := ⟨rfl, rfl, rfl, by decide +kernel, rfl, by decide +kernel, by decide +kernel⟩
theorem c_law_walk (D : Def0 K mg "_law_walk" st_law_walk ["_law_width", "_law_many"]) (n_range : mg "range" = none) :
    Cal P w K mg base 1 "_law_walk" ["_law_width", "_law_many"] (SF r_law_walk) :=
  cal_run D sc_law_walk rfl fun PX f cdv A outer s H EX E hr hg hx hp =>
    (qss_cons (qs_parN (is := [2, 3, 4, 5]) (ps_asg (pe_tup (qm_cons (qe_lst qf_nil) (qm_cons qe_int (qm_cons qe_int (qm_cons qe_int qm_nil))))) (pg_tup rfl (pgs_namesS (pg_name (i := 2) sc_law_walk.nd rfl (Or.inl rfl)) (pgs_namesS (pg_name (i := 3) sc_law_walk.nd rfl (Or.inl rfl)) (pgs_namesS (pg_name (i := 4) sc_law_walk.nd rfl (Or.inl rfl)) (pgs_namesS (pg_name (i := 5) sc_law_walk.nd rfl (Or.inl rfl)) pgs_names0)))))) (by decide))
    (qss_cons (qs_for (ps_for (passes_of rfl) rfl (qi_range1 (by rfl) n_range (qf_cons (qe_var (pv 1)) qf_nil)) (qg_name (pg_name (i := 6) sc_law_walk.nd rfl (Or.inl rfl)))
    (qss_cons (qs_app (ps_expr (pe_bm PySem.F.plainAttrs_list PySem.F.slot_list_append PySem.F.type_list_append mt_append (pv 2) (qf_cons (qe_tup (qf_cons (qe_var (pv 3)) (qf_cons (qe_var (pv 4)) qf_nil))) qf_nil))))
    (qss_one (qs_if (qt_chain (pt_chain (op_leU (Room.u66 hr)) (op_ltU (Room.u66 hr)) qe_int (qe_add (qe_var (pv 4)) (qe_var (pv 5))) (qe_var (pv 0))) oLeU oLtU opLe_ok opLt_ok)
    (qss_one (qs_set (ps_set (i := 4) sc_law_walk.nd rfl (Or.inl rfl) (qe_add (qe_var (pv 4)) (qe_var (pv 5))))))
    (qss_one (qs_par (ps_par (i := 3) (j := 5) rfl sc_law_walk.nd rfl rfl (by decide) rfl rfl (qm_cons (qe_add (qe_var (pv 3)) qe_int) (qm_cons (qe_sub qe_int (qe_var (pv 5))) qm_nil)) (by rfl)))))))))
    (qss_one (qs_ret (qe_var (pv 2))))))

abbrev st_law_runs : Stmt := topS 34
theorem sc_law_runs : FnScope ["_law_walk_here", "_law_area", "_law_inner", "_law_begins", "_law_ends", "_law_pick_here", "_law_end", "_law_at", "_law_here"] ["_law_walk_here", "_law_area"] (defScope st_law_runs) := ⟨rfl, rfl, rfl, by decide +kernel, rfl, by decide +kernel, by decide +kernel⟩
theorem c_law_runs (D : Def0 K mg "_law_runs" st_law_runs ["_law_walk_here", "_law_area"]) (n_tuple : mg "tuple" = none) (n_list : mg "list" = none) (n_enumerate : mg "enumerate" = none) (n_zip : mg "zip" = none) :
    Cal P w K mg base 1 "_law_runs" ["_law_walk_here", "_law_area"] (SF r_law_runs) :=
  cal_run D sc_law_runs rfl fun PX f cdv A outer s H EX E hr hg hx hp =>
    (qss_cons (qs_set (ps_set (i := 2) sc_law_runs.nd rfl (Or.inr rfl) (qe_lc rfl sc_law_runs.nd (qi_seq (qe_var (pv 0))) (blkOk_by (own := [("_law_pick_here", 5), ("_law_end", 6)]) (by kernel_rfl)) (qct_tup (qcts_cons (qct_name (by decide)) (qcts_cons (qct_name (by decide)) qcts_nil))) (fun _ _ _ _ _ => (pg_tup rfl (pgs_cons (pg_name (i := 5) sc_law_runs.nd rfl (Or.inl rfl)) (pgs_cons (pg_name (i := 6) sc_law_runs.nd rfl (Or.inl rfl)) pgs_nil)))) (fun _ _ _ _ _ => qpts_nil) (fun _ _ _ _ _ => (qe_and (qe_chain (pe_chain (op_leU (Room.u66 hr)) (op_leU (Room.u66 hr)) (qe_ix (qe_var (pv 1)) qe_int) (qe_var (pv 5)) (qe_ix (qe_var (pv 1)) qe_int)) oLeU oLeU opLe_ok opLe_ok) (qe_one (qe_chain (pe_chain (op_leU (Room.u66 hr)) (op_leU (Room.u66 hr)) (qe_ix (qe_var (pv 1)) qe_int) (qe_var (pv 6)) (qe_ix (qe_var (pv 1)) qe_int)) oLeU oLeU opLe_ok opLe_ok)))))))
    (qss_cons (qs_setLc (i := 3) rfl sc_law_runs.nd rfl rfl (sw_true rfl rfl rfl (by decide +kernel)) (qi_enum (by rfl) n_enumerate (qf_cons (qe_var (pv 2)) qf_nil)) (blkOk_by (own := [("_law_at", 7), ("_law_here", 8)]) (by kernel_rfl)) (qct_tup (qcts_cons (qct_name (by decide)) (qcts_cons (qct_name (by decide)) qcts_nil))) (fun _ _ _ _ _ => (pg_tup rfl (pgs_cons (pg_name (i := 7) sc_law_runs.nd rfl (Or.inl rfl)) (pgs_cons (pg_name (i := 8) sc_law_runs.nd rfl (Or.inl rfl)) pgs_nil)))) (fun _ _ _ _ _ => (qpts_one (qt_w (qw_and (qt_val (pt_val (qe_var (pv 8)))) (qw_and1 (qt_w (qw_or (qt_cmp (op_eqU hr.units) opB_eqU opEq_ok (qe_var (pv 7)) qe_int (nomark _)) (qw_or1 (qt_not (qt_val (pt_val (qe_ix (qe_var (pv 2)) (qe_sub (qe_var (pv 7)) qe_int))))))))))))) (fun _ _ _ _ _ => (qe_var (pv 7))))
    (qss_cons (qs_setLc (i := 4) rfl sc_law_runs.nd rfl rfl (sw_true rfl rfl rfl (by decide +kernel)) (qi_enum (by rfl) n_enumerate (qf_cons (qe_var (pv 2)) qf_nil)) (blkOk_by (own := [("_law_at", 7), ("_law_here", 8)]) (by kernel_rfl)) (qct_tup (qcts_cons (qct_name (by decide)) (qcts_cons (qct_name (by decide)) qcts_nil))) (fun _ _ _ _ _ => (pg_tup rfl (pgs_cons (pg_name (i := 7) sc_law_runs.nd rfl (Or.inl rfl)) (pgs_cons (pg_name (i := 8) sc_law_runs.nd rfl (Or.inl rfl)) pgs_nil)))) (fun _ _ _ _ _ => (qpts_one (qt_w (qw_and (qt_val (pt_val (qe_var (pv 8)))) (qw_and1 (qt_pc (pcq_isB (b := false) (qe_ix (qe_add (qe_var (pv 2)) (qe_lst (qf_cons qe_bl qf_nil))) (qe_add (qe_var (pv 7)) qe_int))))))))) (fun _ _ _ _ _ => (qe_var (pv 7))))
    (qss_one (qs_ret (qe_tuple (by rfl) n_tuple (qa_cons (qe_fz (qe_listZip rfl (by rfl) n_list (by rfl) n_zip (qf_cons (qe_var (pv 3)) (qf_cons (qe_var (pv 4)) qf_nil)))) qa_nil)))))))

abbrev st_law_areas : Stmt := topS 35
theorem sc_law_areas : FnScope ["_law_pen_here", "_law_width", "_law_picks", "_law_some", "_law_lap", "_law_low", "_law_left", "_law_right_here"] ["_law_pen_here", "_law_width", "_law_picks"] (defScope st_law_areas) := ⟨rfl, rfl, rfl, by decide +kernel, rfl, by decide +kernel, by decide +kernel⟩
theorem c_law_areas (D : Def0 K mg "_law_areas" st_law_areas ["_law_pen_here", "_law_width", "_law_picks"]) (n_range : mg "range" = none) (C_law_draw : Cal P w K mg base 1 "_law_draw" ["_law_pen_here", "_law_many"] (SF r_law_draw)) :
    Cal P w K mg base 2 "_law_areas" ["_law_pen_here", "_law_width", "_law_picks"] (SF r_law_areas) :=
  cal_run D sc_law_areas rfl fun PX f cdv A outer s H EX E hr hg hx hp =>
    (qss_cons (qs_set (ps_set (i := 3) sc_law_areas.nd rfl (Or.inl rfl) (qe_lst (qf_cons (qe_tup (qf_cons qe_int (qf_cons (qe_var (pv 2)) (qf_cons qe_int (qf_cons (qe_sub (qe_var (pv 1)) qe_int) qf_nil))))) (qf_cons (qe_tup (qf_cons qe_int (qf_cons (qe_pow qe_int qe_int) (qf_cons qe_int (qf_cons qe_int qf_nil))))) (qf_cons (qe_tup (qf_cons (qe_add (qe_var (pv 2)) qe_int) (qf_cons (qe_add (qe_var (pv 2)) qe_int) (qf_cons qe_int (qf_cons (qe_sub (qe_var (pv 1)) qe_int) qf_nil))))) qf_nil))))))
    (qss_cons (qs_for (ps_for (passes_of rfl) rfl (qi_range1 (by rfl) n_range (qf_cons qe_int qf_nil)) (qg_name (pg_name (i := 4) sc_law_areas.nd rfl (Or.inl rfl)))
    (qss_cons (qs_par (ps_par (i := 5) (j := 6) rfl sc_law_areas.nd rfl rfl (by decide) rfl rfl (qm_cons (qe_cal C_law_draw (hr.mono (by decide)) hg hp hx (by rfl) (qa_cons (qe_var (pv 0)) (qa_cons (qe_fz (qe_add (qe_var (pv 2)) qe_int)) qa_nil))) (qm_cons (qe_cal C_law_draw (hr.mono (by decide)) hg hp hx (by rfl) (qa_cons (qe_var (pv 0)) (qa_cons (qe_fz (qe_var (pv 1))) qa_nil))) qm_nil)) (by rfl)))
    (qss_cons (qs_set (ps_set (i := 7) sc_law_areas.nd rfl (Or.inl rfl) (qe_add (qe_var (pv 6)) (qe_cal C_law_draw (hr.mono (by decide)) hg hp hx (by rfl) (qa_cons (qe_var (pv 0)) (qa_cons (qe_fz (qe_sub (qe_var (pv 1)) (qe_var (pv 6)))) qa_nil))))))
    (qss_one (qs_app (ps_expr (pe_bm PySem.F.plainAttrs_list PySem.F.slot_list_append PySem.F.type_list_append mt_append (pv 3) (qf_cons (qe_tup (qf_cons (qe_var (pv 5)) (qf_cons (qe_add (qe_var (pv 5)) (qe_cal C_law_draw (hr.mono (by decide)) hg hp hx (by rfl) (qa_cons (qe_var (pv 0)) (qa_cons (qe_fz qe_int) qa_nil)))) (qf_cons (qe_var (pv 6)) (qf_cons (qe_var (pv 7)) qf_nil))))) qf_nil)))))))))
    (qss_one (qs_ret (qe_var (pv 3))))))

abbrev st_law_right : Stmt := topS 36
theorem sc_law_right : FnScope ["_law_pen_here", "_law_weave_here", "_law_kept", "_law_many", "_law_walk_here", "_law_places", "_law_pick_here", "_law_lap", "_law_area", "_law_end", "_law_first", "_law_span", "_law_due", "_law_place", "_law_spot"] ["_law_pen_here"] (defScope st_law_right) := ⟨rfl, rfl, rfl, by decide +kernel, rfl, by decide +kernel, by decide +kernel⟩
theorem c_law_right (D : Def0 K mg "_law_right" st_law_right ["_law_pen_here"]) (n_dict : mg "dict" = none) (n_range : mg "range" = none) (n_repr : mg "repr" = none) (n_sum : mg "sum" = none) (n_list : mg "list" = none) (n_tuple : mg "tuple" = none) (n_enumerate : mg "enumerate" = none) (n_sorted : mg "sorted" = none) (C_law_weave : Cal P w K mg base 3 "_law_weave" ["_law_pen_here"] (SF r_law_weave)) (C_law_walk : Cal P w K mg base 1 "_law_walk" ["_law_width", "_law_many"] (SF r_law_walk)) (C_law_areas : Cal P w K mg base 2 "_law_areas" ["_law_pen_here", "_law_width", "_law_picks"] (SF r_law_areas)) (C_law_draw : Cal P w K mg base 1 "_law_draw" ["_law_pen_here", "_law_many"] (SF r_law_draw)) (C_law_runs : Cal P w K mg base 1 "_law_runs" ["_law_walk_here", "_law_area"] (SF r_law_runs)) (C_law_same : Cal P w K mg base 1 "_law_same" ["_law_found", "_law_owed"] (SF r_law_same)) (C_place_at : Cal P w K mg base 5 "place_at" ["weave", "pick", "end"] (SF r_place_at)) (C_spans_in : Cal P w K mg base 5 "spans_in" ["weave", "area"] (SF r_spans_in)) (C_covered : Cal P w K mg base 5 "covered" ["weave", "span"] (SF r_covered)) :
    Cal P w K mg base 6 "_law_right" ["_law_pen_here"] (SF r_law_right_v12) :=
  cal_run D sc_law_right rfl fun PX f cdv A outer s H EX E hr hg hx hp =>
    (qss_cons (qs_set (ps_set (i := 1) sc_law_right.nd rfl (Or.inl rfl) (qe_cal C_law_weave (hr.mono (by decide)) hg hp hx (by rfl) (qa_cons (qe_var (pv 0)) qa_nil))))
    (qss_cons (qs_par (ps_par (i := 2) (j := 3) rfl sc_law_right.nd rfl rfl (by decide) rfl rfl (qm_cons (qe_repr hg (Room.u66 hr) (by rfl) n_repr (qa_cons (qe_var (pv 1)) qa_nil)) (qm_cons (qe_sum rfl (by rfl) n_sum (qa_cons (qe_fz (qe_ix (qe_var (pv 1)) qe_int)) qa_nil)) qm_nil)) (by rfl)))
    (qss_cons (qs_set (ps_set (i := 4) sc_law_right.nd rfl (Or.inl rfl) (qe_cal C_law_walk (hr.mono (by decide)) hg hp hx (by rfl) (qa_cons (qe_fz (qe_ix (qe_var (pv 1)) qe_int)) (qa_cons (qe_fz (qe_var (pv 3))) qa_nil)))))
    (qss_cons (qs_set (ps_set (i := 5) sc_law_right.nd rfl (Or.inl rfl) (qe_dict hr rfl (by rfl) n_dict (qa_cons (qe_fz (qe_lc rfl sc_law_right.nd (qi_enum (by rfl) n_enumerate (qf_cons (qe_var (pv 4)) qf_nil)) (blkOk_by (own := [("_law_place", 13), ("_law_spot", 14)]) (by kernel_rfl)) (qct_tup (qcts_cons (qct_name (by decide)) (qcts_cons (qct_name (by decide)) qcts_nil))) (fun _ _ _ _ _ => (pg_tup rfl (pgs_cons (pg_name (i := 13) sc_law_right.nd rfl (Or.inl rfl)) (pgs_cons (pg_name (i := 14) sc_law_right.nd rfl (Or.inl rfl)) pgs_nil)))) (fun _ _ _ _ _ => qpts_nil) (fun _ _ _ _ _ => (qe_tup (qf_cons (qe_var (pv 14)) (qf_cons (qe_var (pv 13)) qf_nil)))))) qa_nil))))
    (qss_cons (qs_for (ps_for (passes_of rfl) rfl (qi_seq (qe_add (qe_listR1 rfl (by rfl) n_list (by rfl) n_range (qe_add (qe_ix (qe_ix (qe_var (pv 4)) (qe_neg qe_int)) qe_int) qe_int)) (qe_lst (qf_cons (qe_pow qe_int qe_int) qf_nil)))) (qg_name (pg_name (i := 6) sc_law_right.nd rfl (Or.inl rfl)))
    (qss_one (qs_for (ps_for (passes_of rfl) rfl (qi_range1 (by rfl) n_range (qf_cons (qe_ix (qe_var (pv 1)) qe_int) qf_nil)) (qg_name (pg_name (i := 9) sc_law_right.nd rfl (Or.inl rfl)))
    (qss_one (qs_if (qt_not (qt_val (pt_val (qe_cal C_law_same (hr.mono (by decide)) hg hp hx (by rfl) (qa_cons (qe_fz (qe_cal C_place_at (hr.mono (by decide)) hg hp hx (by rfl) (qa_cons (qe_fz (qe_var (pv 1))) (qa_cons (qe_fz (qe_var (pv 6))) (qa_cons (qe_fz (qe_var (pv 9))) qa_nil))))) (qa_cons (qe_fz (qe_get (Room.u66 hr) (pv 5) (qe_tup (qf_cons (qe_var (pv 6)) (qf_cons (qe_var (pv 9)) qf_nil))))) qa_nil))))))
    (qss_one (qs_ret qe_bl))
    qss_nil)))))))
    (qss_cons (qs_for (ps_for (passes_of rfl) rfl (qi_range1 (by rfl) n_range (qf_cons qe_int qf_nil)) (qg_name (pg_name (i := 7) sc_law_right.nd rfl (Or.inl rfl)))
    (qss_cons (qs_set (ps_set (i := 10) sc_law_right.nd rfl (Or.inl rfl) (qe_cal C_law_draw (hr.mono (by decide)) hg hp hx (by rfl) (qa_cons (qe_var (pv 0)) (qa_cons (qe_fz (qe_var (pv 3))) qa_nil)))))
    (qss_one (qs_for (ps_for (passes_of rfl) rfl (qi_seq (qe_lst (qf_cons (qe_tup (qf_cons (qe_var (pv 10)) (qf_cons (qe_add (qe_var (pv 10)) (qe_cal C_law_draw (hr.mono (by decide)) hg hp hx (by rfl) (qa_cons (qe_var (pv 0)) (qa_cons (qe_fz (qe_sub (qe_var (pv 3)) (qe_var (pv 10)))) qa_nil)))) qf_nil))) (qf_cons (qe_tup (qf_cons (qe_var (pv 10)) (qf_cons (qe_var (pv 10)) qf_nil))) (qf_cons (qe_tup (qf_cons qe_int (qf_cons (qe_sub (qe_var (pv 3)) qe_int) qf_nil))) qf_nil))))) (qg_name (pg_name (i := 11) sc_law_right.nd rfl (Or.inl rfl)))
    (qss_cons (qs_set (ps_set (i := 12) sc_law_right.nd rfl (Or.inl rfl) (qe_tuple (by rfl) n_tuple (qa_cons (qe_fz (qe_sorted hr (by rfl) n_sorted (qa_cons (qe_fz (qe_slice (qe_var (pv 4)) (qo_some (qe_ix (qe_var (pv 11)) qe_int)) (qo_some (qe_add (qe_ix (qe_var (pv 11)) qe_int) qe_int)))) qa_nil))) qa_nil))))
    (qss_one (qs_if (qt_not (qt_val (pt_val (qe_cal C_law_same (hr.mono (by decide)) hg hp hx (by rfl) (qa_cons (qe_fz (qe_lst (qf_cons (qe_cal C_covered (hr.mono (by decide)) hg hp hx (by rfl) (qa_cons (qe_fz (qe_var (pv 1))) (qa_cons (qe_fz (qe_var (pv 11))) qa_nil))) (qf_cons (qe_cal C_covered (hr.mono (by decide)) hg hp hx (by rfl) (qa_cons (qe_fz (qe_var (pv 1))) (qa_cons (qe_fz (qe_var (pv 11))) qa_nil))) qf_nil)))) (qa_cons (qe_fz (qe_lst (qf_cons (qe_var (pv 12)) (qf_cons (qe_var (pv 12)) qf_nil)))) qa_nil))))))
    (qss_one (qs_ret qe_bl))
    qss_nil)))))))))
    (qss_cons (qs_for (ps_for (passes_of rfl) rfl (qi_seq (qe_cal C_law_areas (hr.mono (by decide)) hg hp hx (by rfl) (qa_cons (qe_var (pv 0)) (qa_cons (qe_fz (qe_ix (qe_var (pv 1)) qe_int)) (qa_cons (qe_fz (qe_ix (qe_ix (qe_var (pv 4)) (qe_neg qe_int)) qe_int)) qa_nil))))) (qg_name (pg_name (i := 8) sc_law_right.nd rfl (Or.inl rfl)))
    (qss_cons (qs_set (ps_set (i := 12) sc_law_right.nd rfl (Or.inl rfl) (qe_cal C_law_runs (hr.mono (by decide)) hg hp hx (by rfl) (qa_cons (qe_fz (qe_var (pv 4))) (qa_cons (qe_fz (qe_var (pv 8))) qa_nil)))))
    (qss_one (qs_if (qt_not (qt_val (pt_val (qe_cal C_law_same (hr.mono (by decide)) hg hp hx (by rfl) (qa_cons (qe_fz (qe_lst (qf_cons (qe_cal C_spans_in (hr.mono (by decide)) hg hp hx (by rfl) (qa_cons (qe_fz (qe_var (pv 1))) (qa_cons (qe_fz (qe_var (pv 8))) qa_nil))) (qf_cons (qe_cal C_spans_in (hr.mono (by decide)) hg hp hx (by rfl) (qa_cons (qe_fz (qe_var (pv 1))) (qa_cons (qe_fz (qe_var (pv 8))) qa_nil))) qf_nil)))) (qa_cons (qe_fz (qe_lst (qf_cons (qe_var (pv 12)) (qf_cons (qe_var (pv 12)) qf_nil)))) qa_nil))))))
    (qss_one (qs_ret qe_bl))
    qss_nil)))))
    (qss_one (qs_ret (qe_cmp (op_eqU hr.units) opB_eqU opEq_ok (qe_repr hg (Room.u66 hr) (by rfl) n_repr (qa_cons (qe_var (pv 1)) qa_nil)) (qe_var (pv 2)) (nomark _)))))))))))

abbrev st_law : Stmt := topS 37
theorem sc_law : FnScope ["_law_script", "_law_k", "_law_pen_here", "_law_lap"] ["_law_script"] (defScope st_law) := ⟨rfl, rfl, rfl, by decide +kernel, rfl, by decide +kernel, by decide +kernel⟩
theorem l_law {fa : Addr} {fd : FuncData} (F : Fun K "law" "law" st_law fa fd) (n_range : mg "range" = none) (n_max : mg "max" = none) (n_min : mg "min" = none) (n_len : mg "len" = none) (C_law_pen : Cal P w K mg base 2 "_law_pen" ["_law_script", "_law_k"] (SF r_law_pen)) (C_law_right : Cal P w K mg base 6 "_law_right" ["_law_pen_here"] (SF r_law_right_v12)) (holds : ∀ ns : List Int, ns.length ≤ 63 → r_k31 [.d (.list (ns.map .int))] = .ok (.d (.bool true), none)) :
    FnG P w K mg base 7 fa fd ["_law_script"] (spD K mg 1 (lenS 1 S_law)) :=
  fng_run F sc_law rfl rfl (fun PX f cdv A outer s H EX E hr hg hx hp =>
    (qss_cons (qs_for (ps_for (passes_of rfl) rfl (qi_range1 (by rfl) n_range (qf_cons (qe_max2 rfl (by rfl) n_max (qa_cons (qe_fz qe_int) (qa_cons (qe_fz (qe_min2 rfl (by rfl) n_min (qa_cons (qe_fz (qe_len (by rfl) n_len (qa_cons (qe_var (pv 0)) qa_nil))) (qa_cons (qe_fz qe_int) qa_nil)))) qa_nil))) qf_nil)) (qg_name (pg_name (i := 1) sc_law.nd rfl (Or.inl rfl)))
    (qss_cons (qs_set (ps_set (i := 2) sc_law.nd rfl (Or.inl rfl) (qe_cal C_law_pen (hr.mono (by decide)) hg hp hx (by rfl) (qa_cons (qe_fz (qe_var (pv 0))) (qa_cons (qe_fz (qe_var (pv 1))) qa_nil)))))
    (qss_one (qs_for (ps_for (passes_of rfl) rfl (qi_range1 (by rfl) n_range (qf_cons qe_int qf_nil)) (qg_name (pg_name (i := 3) sc_law.nd rfl (Or.inl rfl)))
    (qss_one (qs_if (qt_not (qt_val (pt_val (qe_cal C_law_right (hr.mono (by decide)) hg hp hx (by rfl) (qa_cons (qe_var (pv 2)) qa_nil)))))
    (qss_one (qs_ret qe_bl))
    qss_nil))))))))
    (qss_one (qs_ret qe_bl)))) holds
end
theorem all_mk {l : PySem.W.OpenLaw} {w : World} {K : PySem.W.Frag} {h : Heap} {mg : Str → Option Value} {fa : Addr} (X : K.In h) (G : h.Ns mainGlobals mg) (hfa : mg "law" = some (.ref fa))
    {f1 f2 f3 f4 f5 f6 f7 f8 f9 f10 f11 f12 f13 f14 f15 f16 f17 f18 f19 f20 f21 f22 f23 f24 f25 : Addr} {od1 an1 od2 an2 od3 an3 od4 an4 od5 an5 od6 an6 od7 an7 od8 an8 od9 an9 od10 an10 od11 an11 od12 an12 od13 an13 od14 an14 od15 an15 od16 an16 od17 an17 od18 an18 od19 an19 od20 an20 od21 an21 od22 an22 od23 an23 od24 an24 od25 an25 : Option Addr} {sl1 sl2 sl3 sl4 sl5 sl6 sl7 sl8 sl9 sl10 sl11 sl12 sl13 sl14 sl15 sl16 sl17 sl18 sl19 sl20 sl21 sl22 sl23 sl24 sl25 : Array (Option Value)} {oc1 kV1 dc1 pm1 cd1 ct1 oc2 kV2 dc2 pm2 cd2 ct2 oc3 kV3 dc3 pm3 cd3 ct3 oc4 kV4 dc4 pm4 cd4 ct4 oc5 kV5 dc5 pm5 cd5 ct5 oc6 kV6 dc6 pm6 cd6 ct6 oc7 kV7 dc7 pm7 cd7 ct7 oc8 kV8 dc8 pm8 cd8 ct8 oc9 kV9 dc9 pm9 cd9 ct9 oc10 kV10 dc10 pm10 cd10 ct10 oc11 kV11 dc11 pm11 cd11 ct11 oc12 kV12 dc12 pm12 cd12 ct12 oc13 kV13 dc13 pm13 cd13 ct13 oc14 kV14 dc14 pm14 cd14 ct14 oc15 kV15 dc15 pm15 cd15 ct15 oc16 kV16 dc16 pm16 cd16 ct16 oc17 kV17 dc17 pm17 cd17 ct17 oc18 kV18 dc18 pm18 cd18 ct18 oc19 kV19 dc19 pm19 cd19 ct19 oc20 kV20 dc20 pm20 cd20 ct20 oc21 kV21 dc21 pm21 cd21 ct21 oc22 kV22 dc22 pm22 cd22 ct22 oc23 kV23 dc23 pm23 cd23 ct23 oc24 kV24 dc24 pm24 cd24 ct24 oc25 kV25 dc25 pm25 cd25 ct25 : Value}
    (a1 : PySem.W.nsIn K mainGlobals "is_whole" = some (some (.ref f1))) (l1 : K.lookup f1 = some ⟨oc1, od1, .func (PySem.W.fnOf "is_whole" "is_whole" (defArgs st_is_whole) (defBody st_is_whole) (defScope st_is_whole) .none kV1 dc1 pm1 an1 cd1 ct1), sl1⟩) (c1 : PySem.W.codeIn K cd1 "is_whole" = true) (k1 : PySem.W.keepIn K (.ref f1) = true)
    (a2 : PySem.W.nsIn K mainGlobals "is_within" = some (some (.ref f2))) (l2 : K.lookup f2 = some ⟨oc2, od2, .func (PySem.W.fnOf "is_within" "is_within" (defArgs st_is_within) (defBody st_is_within) (defScope st_is_within) .none kV2 dc2 pm2 an2 cd2 ct2), sl2⟩) (c2 : PySem.W.codeIn K cd2 "is_within" = true) (k2 : PySem.W.keepIn K (.ref f2) = true)
    (a3 : PySem.W.nsIn K mainGlobals "is_from" = some (some (.ref f3))) (l3 : K.lookup f3 = some ⟨oc3, od3, .func (PySem.W.fnOf "is_from" "is_from" (defArgs st_is_from) (defBody st_is_from) (defScope st_is_from) .none kV3 dc3 pm3 an3 cd3 ct3), sl3⟩) (c3 : PySem.W.codeIn K cd3 "is_from" = true) (k3 : PySem.W.keepIn K (.ref f3) = true)
    (a4 : PySem.W.nsIn K mainGlobals "is_long" = some (some (.ref f4))) (l4 : K.lookup f4 = some ⟨oc4, od4, .func (PySem.W.fnOf "is_long" "is_long" (defArgs st_is_long) (defBody st_is_long) (defScope st_is_long) .none kV4 dc4 pm4 an4 cd4 ct4), sl4⟩) (c4 : PySem.W.codeIn K cd4 "is_long" = true) (k4 : PySem.W.keepIn K (.ref f4) = true)
    (a5 : PySem.W.nsIn K mainGlobals "is_weave" = some (some (.ref f5))) (l5 : K.lookup f5 = some ⟨oc5, od5, .func (PySem.W.fnOf "is_weave" "is_weave" (defArgs st_is_weave) (defBody st_is_weave) (defScope st_is_weave) .none kV5 dc5 pm5 an5 cd5 ct5), sl5⟩) (c5 : PySem.W.codeIn K cd5 "is_weave" = true) (k5 : PySem.W.keepIn K (.ref f5) = true)
    (a6 : PySem.W.nsIn K mainGlobals "need_weave" = some (some (.ref f6))) (l6 : K.lookup f6 = some ⟨oc6, od6, .func (PySem.W.fnOf "need_weave" "need_weave" (defArgs st_need_weave) (defBody st_need_weave) (defScope st_need_weave) .none kV6 dc6 pm6 an6 cd6 ct6), sl6⟩) (c6 : PySem.W.codeIn K cd6 "need_weave" = true) (k6 : PySem.W.keepIn K (.ref f6) = true)
    (a7 : PySem.W.nsIn K mainGlobals "many_places" = some (some (.ref f7))) (l7 : K.lookup f7 = some ⟨oc7, od7, .func (PySem.W.fnOf "many_places" "many_places" (defArgs st_many_places) (defBody st_many_places) (defScope st_many_places) .none kV7 dc7 pm7 an7 cd7 ct7), sl7⟩) (c7 : PySem.W.codeIn K cd7 "many_places" = true) (k7 : PySem.W.keepIn K (.ref f7) = true)
    (a8 : PySem.W.nsIn K mainGlobals "lies_by" = some (some (.ref f8))) (l8 : K.lookup f8 = some ⟨oc8, od8, .func (PySem.W.fnOf "lies_by" "lies_by" (defArgs st_lies_by) (defBody st_lies_by) (defScope st_lies_by) .none kV8 dc8 pm8 an8 cd8 ct8), sl8⟩) (c8 : PySem.W.codeIn K cd8 "lies_by" = true) (k8 : PySem.W.keepIn K (.ref f8) = true)
    (a9 : PySem.W.nsIn K mainGlobals "place_at" = some (some (.ref f9))) (l9 : K.lookup f9 = some ⟨oc9, od9, .func (PySem.W.fnOf "place_at" "place_at" (defArgs st_place_at) (defBody st_place_at) (defScope st_place_at) .none kV9 dc9 pm9 an9 cd9 ct9), sl9⟩) (c9 : PySem.W.codeIn K cd9 "place_at" = true) (k9 : PySem.W.keepIn K (.ref f9) = true)
    (a10 : PySem.W.nsIn K mainGlobals "is_span" = some (some (.ref f10))) (l10 : K.lookup f10 = some ⟨oc10, od10, .func (PySem.W.fnOf "is_span" "is_span" (defArgs st_is_span) (defBody st_is_span) (defScope st_is_span) .none kV10 dc10 pm10 an10 cd10 ct10), sl10⟩) (c10 : PySem.W.codeIn K cd10 "is_span" = true) (k10 : PySem.W.keepIn K (.ref f10) = true)
    (a11 : PySem.W.nsIn K mainGlobals "covered" = some (some (.ref f11))) (l11 : K.lookup f11 = some ⟨oc11, od11, .func (PySem.W.fnOf "covered" "covered" (defArgs st_covered) (defBody st_covered) (defScope st_covered) .none kV11 dc11 pm11 an11 cd11 ct11), sl11⟩) (c11 : PySem.W.codeIn K cd11 "covered" = true) (k11 : PySem.W.keepIn K (.ref f11) = true)
    (a12 : PySem.W.nsIn K mainGlobals "is_area" = some (some (.ref f12))) (l12 : K.lookup f12 = some ⟨oc12, od12, .func (PySem.W.fnOf "is_area" "is_area" (defArgs st_is_area) (defBody st_is_area) (defScope st_is_area) .none kV12 dc12 pm12 an12 cd12 ct12), sl12⟩) (c12 : PySem.W.codeIn K cd12 "is_area" = true) (k12 : PySem.W.keepIn K (.ref f12) = true)
    (a13 : PySem.W.nsIn K mainGlobals "runs_of" = some (some (.ref f13))) (l13 : K.lookup f13 = some ⟨oc13, od13, .func (PySem.W.fnOf "runs_of" "runs_of" (defArgs st_runs_of) (defBody st_runs_of) (defScope st_runs_of) .none kV13 dc13 pm13 an13 cd13 ct13), sl13⟩) (c13 : PySem.W.codeIn K cd13 "runs_of" = true) (k13 : PySem.W.keepIn K (.ref f13) = true)
    (a14 : PySem.W.nsIn K mainGlobals "spans_in" = some (some (.ref f14))) (l14 : K.lookup f14 = some ⟨oc14, od14, .func (PySem.W.fnOf "spans_in" "spans_in" (defArgs st_spans_in) (defBody st_spans_in) (defScope st_spans_in) .none kV14 dc14 pm14 an14 cd14 ct14), sl14⟩) (c14 : PySem.W.codeIn K cd14 "spans_in" = true) (k14 : PySem.W.keepIn K (.ref f14) = true)
    (a15 : PySem.W.nsIn K mainGlobals "_law_cell_at" = some (some (.ref f15))) (l15 : K.lookup f15 = some ⟨oc15, od15, .func (PySem.W.fnOf "_law_cell_at" "_law_cell_at" (defArgs st_law_cell_at) (defBody st_law_cell_at) (defScope st_law_cell_at) .none kV15 dc15 pm15 an15 cd15 ct15), sl15⟩) (c15 : PySem.W.codeIn K cd15 "_law_cell_at" = true) (k15 : PySem.W.keepIn K (.ref f15) = true)
    (a16 : PySem.W.nsIn K mainGlobals "_law_pen" = some (some (.ref f16))) (l16 : K.lookup f16 = some ⟨oc16, od16, .func (PySem.W.fnOf "_law_pen" "_law_pen" (defArgs st_law_pen) (defBody st_law_pen) (defScope st_law_pen) .none kV16 dc16 pm16 an16 cd16 ct16), sl16⟩) (c16 : PySem.W.codeIn K cd16 "_law_pen" = true) (k16 : PySem.W.keepIn K (.ref f16) = true)
    (a17 : PySem.W.nsIn K mainGlobals "_law_draw" = some (some (.ref f17))) (l17 : K.lookup f17 = some ⟨oc17, od17, .func (PySem.W.fnOf "_law_draw" "_law_draw" (defArgs st_law_draw) (defBody st_law_draw) (defScope st_law_draw) .none kV17 dc17 pm17 an17 cd17 ct17), sl17⟩) (c17 : PySem.W.codeIn K cd17 "_law_draw" = true) (k17 : PySem.W.keepIn K (.ref f17) = true)
    (a18 : PySem.W.nsIn K mainGlobals "_law_pick" = some (some (.ref f18))) (l18 : K.lookup f18 = some ⟨oc18, od18, .func (PySem.W.fnOf "_law_pick" "_law_pick" (defArgs st_law_pick) (defBody st_law_pick) (defScope st_law_pick) .none kV18 dc18 pm18 an18 cd18 ct18), sl18⟩) (c18 : PySem.W.codeIn K cd18 "_law_pick" = true) (k18 : PySem.W.keepIn K (.ref f18) = true)
    (a19 : PySem.W.nsIn K mainGlobals "_law_same" = some (some (.ref f19))) (l19 : K.lookup f19 = some ⟨oc19, od19, .func (PySem.W.fnOf "_law_same" "_law_same" (defArgs st_law_same) (defBody st_law_same) (defScope st_law_same) .none kV19 dc19 pm19 an19 cd19 ct19), sl19⟩) (c19 : PySem.W.codeIn K cd19 "_law_same" = true) (k19 : PySem.W.keepIn K (.ref f19) = true)
    (a20 : PySem.W.nsIn K mainGlobals "_law_weave" = some (some (.ref f20))) (l20 : K.lookup f20 = some ⟨oc20, od20, .func (PySem.W.fnOf "_law_weave" "_law_weave" (defArgs st_law_weave) (defBody st_law_weave) (defScope st_law_weave) .none kV20 dc20 pm20 an20 cd20 ct20), sl20⟩) (c20 : PySem.W.codeIn K cd20 "_law_weave" = true) (k20 : PySem.W.keepIn K (.ref f20) = true)
    (a21 : PySem.W.nsIn K mainGlobals "_law_walk" = some (some (.ref f21))) (l21 : K.lookup f21 = some ⟨oc21, od21, .func (PySem.W.fnOf "_law_walk" "_law_walk" (defArgs st_law_walk) (defBody st_law_walk) (defScope st_law_walk) .none kV21 dc21 pm21 an21 cd21 ct21), sl21⟩) (c21 : PySem.W.codeIn K cd21 "_law_walk" = true) (k21 : PySem.W.keepIn K (.ref f21) = true)
    (a22 : PySem.W.nsIn K mainGlobals "_law_runs" = some (some (.ref f22))) (l22 : K.lookup f22 = some ⟨oc22, od22, .func (PySem.W.fnOf "_law_runs" "_law_runs" (defArgs st_law_runs) (defBody st_law_runs) (defScope st_law_runs) .none kV22 dc22 pm22 an22 cd22 ct22), sl22⟩) (c22 : PySem.W.codeIn K cd22 "_law_runs" = true) (k22 : PySem.W.keepIn K (.ref f22) = true)
    (a23 : PySem.W.nsIn K mainGlobals "_law_areas" = some (some (.ref f23))) (l23 : K.lookup f23 = some ⟨oc23, od23, .func (PySem.W.fnOf "_law_areas" "_law_areas" (defArgs st_law_areas) (defBody st_law_areas) (defScope st_law_areas) .none kV23 dc23 pm23 an23 cd23 ct23), sl23⟩) (c23 : PySem.W.codeIn K cd23 "_law_areas" = true) (k23 : PySem.W.keepIn K (.ref f23) = true)
    (a24 : PySem.W.nsIn K mainGlobals "_law_right" = some (some (.ref f24))) (l24 : K.lookup f24 = some ⟨oc24, od24, .func (PySem.W.fnOf "_law_right" "_law_right" (defArgs st_law_right) (defBody st_law_right) (defScope st_law_right) .none kV24 dc24 pm24 an24 cd24 ct24), sl24⟩) (c24 : PySem.W.codeIn K cd24 "_law_right" = true) (k24 : PySem.W.keepIn K (.ref f24) = true)
    (a25 : PySem.W.nsIn K mainGlobals "law" = some (some (.ref f25))) (l25 : K.lookup f25 = some ⟨oc25, od25, .func (PySem.W.fnOf "law" "law" (defArgs st_law) (defBody st_law) (defScope st_law) .none kV25 dc25 pm25 an25 cd25 ct25), sl25⟩) (c25 : PySem.W.codeIn K cd25 "law" = true) (k25 : PySem.W.keepIn K (.ref f25) = true)
    (z_isinstance : PySem.W.nsIn K mainGlobals "isinstance" = some none)
    (z_int : PySem.W.nsIn K mainGlobals "int" = some none)
    (z_bool : PySem.W.nsIn K mainGlobals "bool" = some none)
    (z_tuple : PySem.W.nsIn K mainGlobals "tuple" = some none)
    (z_len : PySem.W.nsIn K mainGlobals "len" = some none)
    (z_all : PySem.W.nsIn K mainGlobals "all" = some none)
    (z_sum : PySem.W.nsIn K mainGlobals "sum" = some none)
    (z_divmod : PySem.W.nsIn K mainGlobals "divmod" = some none)
    (z_sorted : PySem.W.nsIn K mainGlobals "sorted" = some none)
    (z_range : PySem.W.nsIn K mainGlobals "range" = some none)
    (z_max : PySem.W.nsIn K mainGlobals "max" = some none)
    (z_repr : PySem.W.nsIn K mainGlobals "repr" = some none)
    (z_list : PySem.W.nsIn K mainGlobals "list" = some none)
    (z_enumerate : PySem.W.nsIn K mainGlobals "enumerate" = some none)
    (z_zip : PySem.W.nsIn K mainGlobals "zip" = some none)
    (z_dict : PySem.W.nsIn K mainGlobals "dict" = some none)
    (z_min : PySem.W.nsIn K mainGlobals "min" = some none)
    {t_MOST_ENDS : Tok} (v_MOST_ENDS : PySem.W.nsIn K mainGlobals "MOST_ENDS" = some (some (.int 12 t_MOST_ENDS)))
    {t_MOST_BOBBINS : Tok} (v_MOST_BOBBINS : PySem.W.nsIn K mainGlobals "MOST_BOBBINS" = some (some (.int 6 t_MOST_BOBBINS)))
    {t_MOST_YARN : Tok} (v_MOST_YARN : PySem.W.nsIn K mainGlobals "MOST_YARN" = some (some (.int 60 t_MOST_YARN)))
    : ∃ fd : FuncData, (∀ (s : Shared) (v : Value), BindsTo s fd ⟨[v], []⟩ [("_law_script", v)]) ∧ ∀ base : Heap, K.In base → base.Ns mainGlobals mg → FnG l.prog w K mg base 7 fa fd ["_law_script"] (spD K mg 1 (lenS 1 S_law)) := by
  have e := hfa.symm.trans (PySem.W.mg_of X G a25)
  cases e
  have n_isinstance := PySem.W.mg_none_of X G z_isinstance
  have n_int := PySem.W.mg_none_of X G z_int
  have n_bool := PySem.W.mg_none_of X G z_bool
  have n_tuple := PySem.W.mg_none_of X G z_tuple
  have n_len := PySem.W.mg_none_of X G z_len
  have n_all := PySem.W.mg_none_of X G z_all
  have n_sum := PySem.W.mg_none_of X G z_sum
  have n_divmod := PySem.W.mg_none_of X G z_divmod
  have n_sorted := PySem.W.mg_none_of X G z_sorted
  have n_range := PySem.W.mg_none_of X G z_range
  have n_max := PySem.W.mg_none_of X G z_max
  have n_repr := PySem.W.mg_none_of X G z_repr
  have n_list := PySem.W.mg_none_of X G z_list
  have n_enumerate := PySem.W.mg_none_of X G z_enumerate
  have n_zip := PySem.W.mg_none_of X G z_zip
  have n_dict := PySem.W.mg_none_of X G z_dict
  have n_min := PySem.W.mg_none_of X G z_min
  have k_MOST_ENDS := PySem.W.mg_of X G v_MOST_ENDS
  have k_MOST_BOBBINS := PySem.W.mg_of X G v_MOST_BOBBINS
  have k_MOST_YARN := PySem.W.mg_of X G v_MOST_YARN
  have F1 := fun_mk (st := st_is_whole) l1 c1 k1
  have D1 : Def0 K mg "is_whole" st_is_whole ["thing"] := ⟨_, _, F1, PySem.W.mg_of X G a1, F1.binds (ps := ["thing"]) fun _ _ _ _ _ _ us hl => match us, hl with | [_], _ => rfl, Fun.kwb (ps := ["thing"]) F1 fun _ _ _ _ _ _ us hl => match us, hl with | [_], _ => rfl⟩
  have F2 := fun_mk (st := st_is_within) l2 c2 k2
  have D2 : Def0 K mg "is_within" st_is_within ["thing", "least", "most"] := ⟨_, _, F2, PySem.W.mg_of X G a2, F2.binds (ps := ["thing", "least", "most"]) fun _ _ _ _ _ _ us hl => match us, hl with | [_, _, _], _ => rfl, Fun.kwb (ps := ["thing", "least", "most"]) F2 fun _ _ _ _ _ _ us hl => match us, hl with | [_, _, _], _ => rfl⟩
  have F3 := fun_mk (st := st_is_from) l3 c3 k3
  have D3 : Def0 K mg "is_from" st_is_from ["thing", "least"] := ⟨_, _, F3, PySem.W.mg_of X G a3, F3.binds (ps := ["thing", "least"]) fun _ _ _ _ _ _ us hl => match us, hl with | [_, _], _ => rfl, Fun.kwb (ps := ["thing", "least"]) F3 fun _ _ _ _ _ _ us hl => match us, hl with | [_, _], _ => rfl⟩
  have F4 := fun_mk (st := st_is_long) l4 c4 k4
  have D4 : Def0 K mg "is_long" st_is_long ["thing", "least", "most"] := ⟨_, _, F4, PySem.W.mg_of X G a4, F4.binds (ps := ["thing", "least", "most"]) fun _ _ _ _ _ _ us hl => match us, hl with | [_, _, _], _ => rfl, Fun.kwb (ps := ["thing", "least", "most"]) F4 fun _ _ _ _ _ _ us hl => match us, hl with | [_, _, _], _ => rfl⟩
  have F5 := fun_mk (st := st_is_weave) l5 c5 k5
  have D5 : Def0 K mg "is_weave" st_is_weave ["thing"] := ⟨_, _, F5, PySem.W.mg_of X G a5, F5.binds (ps := ["thing"]) fun _ _ _ _ _ _ us hl => match us, hl with | [_], _ => rfl, Fun.kwb (ps := ["thing"]) F5 fun _ _ _ _ _ _ us hl => match us, hl with | [_], _ => rfl⟩
  have F6 := fun_mk (st := st_need_weave) l6 c6 k6
  have D6 : Def0 K mg "need_weave" st_need_weave ["thing"] := ⟨_, _, F6, PySem.W.mg_of X G a6, F6.binds (ps := ["thing"]) fun _ _ _ _ _ _ us hl => match us, hl with | [_], _ => rfl, Fun.kwb (ps := ["thing"]) F6 fun _ _ _ _ _ _ us hl => match us, hl with | [_], _ => rfl⟩
  have F7 := fun_mk (st := st_many_places) l7 c7 k7
  have D7 : Def0 K mg "many_places" st_many_places ["weave"] := ⟨_, _, F7, PySem.W.mg_of X G a7, F7.binds (ps := ["weave"]) fun _ _ _ _ _ _ us hl => match us, hl with | [_], _ => rfl, Fun.kwb (ps := ["weave"]) F7 fun _ _ _ _ _ _ us hl => match us, hl with | [_], _ => rfl⟩
  have F8 := fun_mk (st := st_lies_by) l8 c8 k8
  have D8 : Def0 K mg "lies_by" st_lies_by ["width", "place"] := ⟨_, _, F8, PySem.W.mg_of X G a8, F8.binds (ps := ["width", "place"]) fun _ _ _ _ _ _ us hl => match us, hl with | [_, _], _ => rfl, Fun.kwb (ps := ["width", "place"]) F8 fun _ _ _ _ _ _ us hl => match us, hl with | [_, _], _ => rfl⟩
  have F9 := fun_mk (st := st_place_at) l9 c9 k9
  have D9 : Def0 K mg "place_at" st_place_at ["weave", "pick", "end"] := ⟨_, _, F9, PySem.W.mg_of X G a9, F9.binds (ps := ["weave", "pick", "end"]) fun _ _ _ _ _ _ us hl => match us, hl with | [_, _, _], _ => rfl, Fun.kwb (ps := ["weave", "pick", "end"]) F9 fun _ _ _ _ _ _ us hl => match us, hl with | [_, _, _], _ => rfl⟩
  have F10 := fun_mk (st := st_is_span) l10 c10 k10
  have D10 : Def0 K mg "is_span" st_is_span ["weave", "thing"] := ⟨_, _, F10, PySem.W.mg_of X G a10, F10.binds (ps := ["weave", "thing"]) fun _ _ _ _ _ _ us hl => match us, hl with | [_, _], _ => rfl, Fun.kwb (ps := ["weave", "thing"]) F10 fun _ _ _ _ _ _ us hl => match us, hl with | [_, _], _ => rfl⟩
  have F11 := fun_mk (st := st_covered) l11 c11 k11
  have D11 : Def0 K mg "covered" st_covered ["weave", "span"] := ⟨_, _, F11, PySem.W.mg_of X G a11, F11.binds (ps := ["weave", "span"]) fun _ _ _ _ _ _ us hl => match us, hl with | [_, _], _ => rfl, Fun.kwb (ps := ["weave", "span"]) F11 fun _ _ _ _ _ _ us hl => match us, hl with | [_, _], _ => rfl⟩
  have F12 := fun_mk (st := st_is_area) l12 c12 k12
  have D12 : Def0 K mg "is_area" st_is_area ["weave", "thing"] := ⟨_, _, F12, PySem.W.mg_of X G a12, F12.binds (ps := ["weave", "thing"]) fun _ _ _ _ _ _ us hl => match us, hl with | [_, _], _ => rfl, Fun.kwb (ps := ["weave", "thing"]) F12 fun _ _ _ _ _ _ us hl => match us, hl with | [_, _], _ => rfl⟩
  have F13 := fun_mk (st := st_runs_of) l13 c13 k13
  have D13 : Def0 K mg "runs_of" st_runs_of ["places"] := ⟨_, _, F13, PySem.W.mg_of X G a13, F13.binds (ps := ["places"]) fun _ _ _ _ _ _ us hl => match us, hl with | [_], _ => rfl, Fun.kwb (ps := ["places"]) F13 fun _ _ _ _ _ _ us hl => match us, hl with | [_], _ => rfl⟩
  have F14 := fun_mk (st := st_spans_in) l14 c14 k14
  have D14 : Def0 K mg "spans_in" st_spans_in ["weave", "area"] := ⟨_, _, F14, PySem.W.mg_of X G a14, F14.binds (ps := ["weave", "area"]) fun _ _ _ _ _ _ us hl => match us, hl with | [_, _], _ => rfl, Fun.kwb (ps := ["weave", "area"]) F14 fun _ _ _ _ _ _ us hl => match us, hl with | [_, _], _ => rfl⟩
  have F15 := fun_mk (st := st_law_cell_at) l15 c15 k15
  have D15 : Def0 K mg "_law_cell_at" st_law_cell_at ["_law_script", "_law_k"] := ⟨_, _, F15, PySem.W.mg_of X G a15, F15.binds (ps := ["_law_script", "_law_k"]) fun _ _ _ _ _ _ us hl => match us, hl with | [_, _], _ => rfl, Fun.kwb (ps := ["_law_script", "_law_k"]) F15 fun _ _ _ _ _ _ us hl => match us, hl with | [_, _], _ => rfl⟩
  have F16 := fun_mk (st := st_law_pen) l16 c16 k16
  have D16 : Def0 K mg "_law_pen" st_law_pen ["_law_script", "_law_k"] := ⟨_, _, F16, PySem.W.mg_of X G a16, F16.binds (ps := ["_law_script", "_law_k"]) fun _ _ _ _ _ _ us hl => match us, hl with | [_, _], _ => rfl, Fun.kwb (ps := ["_law_script", "_law_k"]) F16 fun _ _ _ _ _ _ us hl => match us, hl with | [_, _], _ => rfl⟩
  have F17 := fun_mk (st := st_law_draw) l17 c17 k17
  have D17 : Def0 K mg "_law_draw" st_law_draw ["_law_pen_here", "_law_many"] := ⟨_, _, F17, PySem.W.mg_of X G a17, F17.binds (ps := ["_law_pen_here", "_law_many"]) fun _ _ _ _ _ _ us hl => match us, hl with | [_, _], _ => rfl, Fun.kwb (ps := ["_law_pen_here", "_law_many"]) F17 fun _ _ _ _ _ _ us hl => match us, hl with | [_, _], _ => rfl⟩
  have F18 := fun_mk (st := st_law_pick) l18 c18 k18
  have D18 : Def0 K mg "_law_pick" st_law_pick ["_law_pen_here", "_law_some"] := ⟨_, _, F18, PySem.W.mg_of X G a18, F18.binds (ps := ["_law_pen_here", "_law_some"]) fun _ _ _ _ _ _ us hl => match us, hl with | [_, _], _ => rfl, Fun.kwb (ps := ["_law_pen_here", "_law_some"]) F18 fun _ _ _ _ _ _ us hl => match us, hl with | [_, _], _ => rfl⟩
  have F19 := fun_mk (st := st_law_same) l19 c19 k19
  have D19 : Def0 K mg "_law_same" st_law_same ["_law_found", "_law_owed"] := ⟨_, _, F19, PySem.W.mg_of X G a19, F19.binds (ps := ["_law_found", "_law_owed"]) fun _ _ _ _ _ _ us hl => match us, hl with | [_, _], _ => rfl, Fun.kwb (ps := ["_law_found", "_law_owed"]) F19 fun _ _ _ _ _ _ us hl => match us, hl with | [_, _], _ => rfl⟩
  have F20 := fun_mk (st := st_law_weave) l20 c20 k20
  have D20 : Def0 K mg "_law_weave" st_law_weave ["_law_pen_here"] := ⟨_, _, F20, PySem.W.mg_of X G a20, F20.binds (ps := ["_law_pen_here"]) fun _ _ _ _ _ _ us hl => match us, hl with | [_], _ => rfl, Fun.kwb (ps := ["_law_pen_here"]) F20 fun _ _ _ _ _ _ us hl => match us, hl with | [_], _ => rfl⟩
  have F21 := fun_mk (st := st_law_walk) l21 c21 k21
  have D21 : Def0 K mg "_law_walk" st_law_walk ["_law_width", "_law_many"] := ⟨_, _, F21, PySem.W.mg_of X G a21, F21.binds (ps := ["_law_width", "_law_many"]) fun _ _ _ _ _ _ us hl => match us, hl with | [_, _], _ => rfl, Fun.kwb (ps := ["_law_width", "_law_many"]) F21 fun _ _ _ _ _ _ us hl => match us, hl with | [_, _], _ => rfl⟩
  have F22 := fun_mk (st := st_law_runs) l22 c22 k22
  have D22 : Def0 K mg "_law_runs" st_law_runs ["_law_walk_here", "_law_area"] := ⟨_, _, F22, PySem.W.mg_of X G a22, F22.binds (ps := ["_law_walk_here", "_law_area"]) fun _ _ _ _ _ _ us hl => match us, hl with | [_, _], _ => rfl, Fun.kwb (ps := ["_law_walk_here", "_law_area"]) F22 fun _ _ _ _ _ _ us hl => match us, hl with | [_, _], _ => rfl⟩
  have F23 := fun_mk (st := st_law_areas) l23 c23 k23
  have D23 : Def0 K mg "_law_areas" st_law_areas ["_law_pen_here", "_law_width", "_law_picks"] := ⟨_, _, F23, PySem.W.mg_of X G a23, F23.binds (ps := ["_law_pen_here", "_law_width", "_law_picks"]) fun _ _ _ _ _ _ us hl => match us, hl with | [_, _, _], _ => rfl, Fun.kwb (ps := ["_law_pen_here", "_law_width", "_law_picks"]) F23 fun _ _ _ _ _ _ us hl => match us, hl with | [_, _, _], _ => rfl⟩
  have F24 := fun_mk (st := st_law_right) l24 c24 k24
  have D24 : Def0 K mg "_law_right" st_law_right ["_law_pen_here"] := ⟨_, _, F24, PySem.W.mg_of X G a24, F24.binds (ps := ["_law_pen_here"]) fun _ _ _ _ _ _ us hl => match us, hl with | [_], _ => rfl, Fun.kwb (ps := ["_law_pen_here"]) F24 fun _ _ _ _ _ _ us hl => match us, hl with | [_], _ => rfl⟩
  have F25 := fun_mk (st := st_law) l25 c25 k25
  refine ⟨PySem.W.fnOf "law" "law" (defArgs st_law) (defBody st_law) (defScope st_law) .none kV25 dc25 pm25 an25 cd25 ct25, fun s v => .of_eq rfl, fun base _ _ => ?_⟩
  have C_is_whole := c_is_whole (P := l.prog) (w := w) (base := base) D1 n_isinstance n_int n_bool
  have C_is_long := c_is_long (P := l.prog) (w := w) (base := base) D4 n_isinstance n_tuple n_len
  have C_many_places := c_many_places (P := l.prog) (w := w) (base := base) D7 n_sum
  have C_lies_by := c_lies_by (P := l.prog) (w := w) (base := base) D8 n_divmod
  have C_runs_of := c_runs_of (P := l.prog) (w := w) (base := base) D13 n_tuple
  have C_law_cell_at := c_law_cell_at (P := l.prog) (w := w) (base := base) D15 n_len
  have C_law_draw := c_law_draw (P := l.prog) (w := w) (base := base) D17 
  have C_law_same := c_law_same (P := l.prog) (w := w) (base := base) D19 n_repr
  have C_law_walk := c_law_walk (P := l.prog) (w := w) (base := base) D21 n_range
  have C_law_runs := c_law_runs (P := l.prog) (w := w) (base := base) D22 n_tuple n_list n_enumerate n_zip
  have C_is_within := c_is_within (P := l.prog) (w := w) (base := base) D2 C_is_whole
  have C_is_from := c_is_from (P := l.prog) (w := w) (base := base) D3 C_is_whole
  have C_law_pen := c_law_pen (P := l.prog) (w := w) (base := base) D16 n_max C_law_cell_at
  have C_law_pick := c_law_pick (P := l.prog) (w := w) (base := base) D18 n_len C_law_draw
  have C_law_areas := c_law_areas (P := l.prog) (w := w) (base := base) D23 n_range C_law_draw
  have C_is_weave := c_is_weave (P := l.prog) (w := w) (base := base) D5 n_all k_MOST_ENDS k_MOST_BOBBINS k_MOST_YARN C_is_long C_is_within
  have C_is_span := c_is_span (P := l.prog) (w := w) (base := base) D10 n_all C_is_long C_is_within C_many_places
  have C_is_area := c_is_area (P := l.prog) (w := w) (base := base) D12 n_all C_is_long C_is_within C_is_from
  have C_law_weave := c_law_weave (P := l.prog) (w := w) (base := base) D20 n_range n_tuple C_law_draw C_law_pick
  have C_need_weave := c_need_weave (P := l.prog) (w := w) (base := base) D6 C_is_weave
  have C_place_at := c_place_at (P := l.prog) (w := w) (base := base) D9 C_need_weave C_is_from C_is_within C_many_places
  have C_covered := c_covered (P := l.prog) (w := w) (base := base) D11 n_tuple n_sorted n_range C_need_weave C_is_span C_lies_by
  have C_spans_in := c_spans_in (P := l.prog) (w := w) (base := base) D14 n_range C_need_weave C_runs_of C_is_area C_many_places C_lies_by
  have C_law_right := c_law_right (P := l.prog) (w := w) (base := base) D24 n_dict n_range n_repr n_sum n_list n_tuple n_enumerate n_sorted C_law_weave C_law_walk C_law_areas C_law_draw C_law_runs C_law_same C_place_at C_spans_in C_covered
  exact l_law F25 n_range n_max n_min n_len C_law_pen C_law_right holds_k31
end DL
open PySem PySem.W PyProof.Rows in
set_option maxRecDepth 100000 in
set_option maxHeartbeats 0 in
theorem PySem.Challenge.cw_weftmill_k31_picks_spans_and_areas_holds : PySem.Challenge.rw_weftmill_k31_picks_spans_and_areas.Holds := by
  w_on; o_law; k_head; (case hw => w_witness2)
  k_fill
  refine DL.walkG (l := PySem.Challenge.rw_weftmill_k31_picks_spans_and_areas) (k := 7) (x := "_law_script") rfl rfl ⟨rfl, by decide, by decide⟩ (fun w h Y => PySem.W.kIn_of Y) ?F
  case F =>
    intro w mg fa h KX G hmg
    refine' DL.all_mk KX G hmg ?a1 ?l1 ?c1 ?k1 ?a2 ?l2 ?c2 ?k2 ?a3 ?l3 ?c3 ?k3 ?a4 ?l4 ?c4 ?k4 ?a5 ?l5 ?c5 ?k5 ?a6 ?l6 ?c6 ?k6 ?a7 ?l7 ?c7 ?k7 ?a8 ?l8 ?c8 ?k8 ?a9 ?l9 ?c9 ?k9 ?a10 ?l10 ?c10 ?k10 ?a11 ?l11 ?c11 ?k11 ?a12 ?l12 ?c12 ?k12 ?a13 ?l13 ?c13 ?k13 ?a14 ?l14 ?c14 ?k14 ?a15 ?l15 ?c15 ?k15 ?a16 ?l16 ?c16 ?k16 ?a17 ?l17 ?c17 ?k17 ?a18 ?l18 ?c18 ?k18 ?a19 ?l19 ?c19 ?k19 ?a20 ?l20 ?c20 ?k20 ?a21 ?l21 ?c21 ?k21 ?a22 ?l22 ?c22 ?k22 ?a23 ?l23 ?c23 ?k23 ?a24 ?l24 ?c24 ?k24 ?a25 ?l25 ?c25 ?k25 ?z_isinstance ?z_int ?z_bool ?z_tuple ?z_len ?z_all ?z_sum ?z_divmod ?z_sorted ?z_range ?z_max ?z_repr ?z_list ?z_enumerate ?z_zip ?z_dict ?z_min ?v_MOST_ENDS ?v_MOST_BOBBINS ?v_MOST_YARN
    (case a1 => k_is)
    (case l1 => k_is)
    (case c1 => k_is)
    (case k1 => k_is)
    (case a2 => k_is)
    (case l2 => k_is)
    (case c2 => k_is)
    (case k2 => k_is)
    (case a3 => k_is)
    (case l3 => k_is)
    (case c3 => k_is)
    (case k3 => k_is)
    (case a4 => k_is)
    (case l4 => k_is)
    (case c4 => k_is)
    (case k4 => k_is)
    (case a5 => k_is)
    (case l5 => k_is)
    (case c5 => k_is)
    (case k5 => k_is)
    (case a6 => k_is)
    (case l6 => k_is)
    (case c6 => k_is)
    (case k6 => k_is)
    (case a7 => k_is)
    (case l7 => k_is)
    (case c7 => k_is)
    (case k7 => k_is)
    (case a8 => k_is)
    (case l8 => k_is)
    (case c8 => k_is)
    (case k8 => k_is)
    (case a9 => k_is)
    (case l9 => k_is)
    (case c9 => k_is)
    (case k9 => k_is)
    (case a10 => k_is)
    (case l10 => k_is)
    (case c10 => k_is)
    (case k10 => k_is)
    (case a11 => k_is)
    (case l11 => k_is)
    (case c11 => k_is)
    (case k11 => k_is)
    (case a12 => k_is)
    (case l12 => k_is)
    (case c12 => k_is)
    (case k12 => k_is)
    (case a13 => k_is)
    (case l13 => k_is)
    (case c13 => k_is)
    (case k13 => k_is)
    (case a14 => k_is)
    (case l14 => k_is)
    (case c14 => k_is)
    (case k14 => k_is)
    (case a15 => k_is)
    (case l15 => k_is)
    (case c15 => k_is)
    (case k15 => k_is)
    (case a16 => k_is)
    (case l16 => k_is)
    (case c16 => k_is)
    (case k16 => k_is)
    (case a17 => k_is)
    (case l17 => k_is)
    (case c17 => k_is)
    (case k17 => k_is)
    (case a18 => k_is)
    (case l18 => k_is)
    (case c18 => k_is)
    (case k18 => k_is)
    (case a19 => k_is)
    (case l19 => k_is)
    (case c19 => k_is)
    (case k19 => k_is)
    (case a20 => k_is)
    (case l20 => k_is)
    (case c20 => k_is)
    (case k20 => k_is)
    (case a21 => k_is)
    (case l21 => k_is)
    (case c21 => k_is)
    (case k21 => k_is)
    (case a22 => k_is)
    (case l22 => k_is)
    (case c22 => k_is)
    (case k22 => k_is)
    (case a23 => k_is)
    (case l23 => k_is)
    (case c23 => k_is)
    (case k23 => k_is)
    (case a24 => k_is)
    (case l24 => k_is)
    (case c24 => k_is)
    (case k24 => k_is)
    (case a25 => k_is)
    (case l25 => k_is)
    (case c25 => k_is)
    (case k25 => k_is)
    (case z_isinstance => k_is)
    (case z_int => k_is)
    (case z_bool => k_is)
    (case z_tuple => k_is)
    (case z_len => k_is)
    (case z_all => k_is)
    (case z_sum => k_is)
    (case z_divmod => k_is)
    (case z_sorted => k_is)
    (case z_range => k_is)
    (case z_max => k_is)
    (case z_repr => k_is)
    (case z_list => k_is)
    (case z_enumerate => k_is)
    (case z_zip => k_is)
    (case z_dict => k_is)
    (case z_min => k_is)
    (case v_MOST_ENDS => k_is)
    (case v_MOST_BOBBINS => k_is)
    (case v_MOST_YARN => k_is)
