import PyProof.Rows.All
import Wide.All
import OpenK.AllK
import Wide.FinOn
import HandS.ForMost
import HandS.IsInst
import HandS.Exc
import HandS.TupAny
import HandS.ExcOwn
import HandS.WordsExc
import HandS.Property
import HandS.More
import HandS.Steps
import HandS.Strs
import HandS.Iter
import PyProof.Draws
import HandS.Dict
import HandS.Lambda
import HandS.ExcIs
import HandS.ReplaceLit
import HandS.ReplaceList
import HandS.Head0
import HandS.Head1
import HandS.Head2
import HandS.HeadEnd
import HandS.HeadHook1
import HandS.HeadHook2
import HandS.HeadHook3
import HandS.HeadHook4
import HandS.HeadWalk
import PySem.Challenge.RW_toldofkinds_k02_whole_texts_of_shapes
/-! TkMisc -/
set_option Elab.async false
set_option linter.all false
set_option maxRecDepth 100000
set_option maxHeartbeats 2000000
namespace Tk
open PySem PySem.Spec PyProof.Rows L2
open PySem.AutoSeq1 in
theorem ext_tup (l : Addr) (items : Array Value) (n : Nat) (b : Addr) (items2 : Array Value) (n2 : Nat) (dd : Option Addr) (sl : Array (Option Value)) (hs0 : ¬(!items.isEmpty && Builtin.List.listTooLong (items.size + items2.size)) = true) (hs1 : items.size ≤ sizeLine) (hs2 : items.size + items2.size ≤ sizeLine + 1) :
    Meets (Builtin.«list.extend» ⟨[.ref l, .ref b], []⟩) (fun _ R s => s.heap.get? l = some { cls := .type "list", dict := none, data := .seq items n, slots := #[] } ∧ s.heap.get? b = some { cls := .type "tuple", dict := dd, data := .seq items2 n2, slots := sl } ∧
      R (.ok (.ret Value.none)) { s with heap := s.heap.update l (Obj.mapSeq fun x => x ++ items2), toks := s.toks }) :=
  .of_wp fun prog w A R s h => by
    obtain ⟨hp, g, d, tk, os⟩ := s
    obtain ⟨hl, hb, h⟩ := h
    have f1 := PySem.AutoSeq1.idx_int
    have f2 := PySem.AutoSeq1.sub_tuple_tuple
    have f3 := PySem.AutoSeq1.sub_list_list
    have f4 := PySem.AutoSeq1.sub_tuple_list
    have f5 := PySem.AutoSeq1.sub_list_tuple
    have hz' : (items ++ items2).size ≤ sizeLine + 1 := by rw [Array.size_append]; exact hs2
    wp_walk using (wpAny_updateSeq hl rfl (hz := hs1) (_hz' := hz')), wpAny_loadPart' hl, wpAny_loadPart' hb
    exact ⟨_, rfl, h⟩
section
variable {X : Cx}
/-- xs.extend(t), t a tuple -/
def rExtT (K : PySem.W.Frag) : V → List V → Hp → VK → Prop := fun x vs H Q => ∃ l b xs zs, x = .ref l ∧ vs = [.ref b] ∧ H l = some (.lst xs) ∧ SqT K H b zs ∧ xs.length + zs.length ≤ sizeLine ∧ Q .non (upd H l (.lst (xs ++ zs)))
theorem mt_extT : MtR X "list.extend" (rExtT X.K) := by
  intro pins s σ H x vs v us Q I rx rv h
  obtain ⟨l, b, xs, zs, rfl, rfl, hH, hB, hz, q⟩ := h
  cases rx
  obtain ⟨u, rfl, ru⟩ := rv.one
  cases ru
  obtain ⟨z, its, n, r, hl, e⟩ := I.lstM hH
  obtain ⟨its2, r2, t2, hl2⟩ := I.tuple hB
  have hl3 := r2.length
  have hsz : its.toArray.size + its2.toArray.size ≤ sizeLine := by rw [List.size_toArray, List.size_toArray]; omega
  have hlong : ¬ (!its.toArray.isEmpty && Builtin.List.listTooLong (its.toArray.size + its2.toArray.size)) = true := by
    unfold Builtin.List.listTooLong
    rw [Bool.and_eq_true]
    intro h
    have h2 := of_decide_eq_true h.2
    have h3 : sizeLine = 16777216 := sizeLine_eq
    rw [h3] at hsz
    omega
  obtain ⟨⟨oc, od, dt, sl⟩, ho, hc, n2, hd⟩ := t2
  simp only at hc hd
  subst hc hd
  refine call_meets F.slot_list_extend ⟨_, e, rfl⟩ F.entry_list_extend (F.args_list_extend_2 _ _)
    (ext_tup l its.toArray n b its2.toArray n2 od sl hlong (by rw [List.size_toArray]; omega) (by omega)) ⟨e, ho, ?_⟩
  refine ⟨.non, _, I.lset (its' := its ++ its2) hH e (by simp) (r.append r2) ?_, rfl, q⟩
  rw [List.length_append]
  omega
/-- text * int -/
def rMulS : R2 := fun x y H Q => ∃ z i, x = .str z ∧ y = .int i ∧ MulOk z i ∧ Q (.str (Txt.mul z i)) H
theorem op_mulS : OpR X (binaryOp .Mult) rMulS := by
  intro pins s σ H x y v u Q I rx ry h
  obtain ⟨z, i, rfl, rfl, ok, q⟩ := h
  obtain ⟨t, rfl⟩ := rx
  obtain ⟨t2, rfl⟩ := ry
  exact SB.mul ok fun t' k => ⟨.str (Txt.mul z i), H, I.tok k, ⟨t', rfl⟩, q⟩
end
end Tk

/-! TkCore -/
set_option Elab.async false
set_option linter.all false
set_option autoImplicit false
set_option maxRecDepth 100000
set_option maxHeartbeats 2000000
namespace Tk
open PySem PySem.Spec PyProof.Rows L2

/-- an exception object of this class -/
def ExK (cls : Value) (d : Option Addr) (a : Addr) : HO := .ext fun h => ∃ (oe : Obj) (vs : Array Value), h.get? a = some oe ∧ Zc cls d oe ∧ oe.data = .fields vs
/-! ### data at values: lists are tracked ones; an exception stands as a dict of its own kind -/
/-- an exception of the class at D, as data -/
abbrev excD (D : Addr) : PyData := .dict [(.int (D : Int), .none)]
mutual
inductive Dt (K : PySem.W.Frag) (H : Hp) : V → PyData → Prop
  | non : Dt K H .non .none
  | bl (b : Bool) : Dt K H (.bl b) (.bool b)
  | int (i : Int) : Dt K H (.int i) (.int i)
  | str (x : Str) : Dt K H (.str x) (.str x)
  | lst {a : Addr} {xs : List V} {ds : List PyData} : H a = some (.lst xs) → DtA K H xs ds → Dt K H (.ref a) (.list ds)
  | tup {a : Addr} {xs : List V} {ds : List PyData} : SqT K H a xs → DtA K H xs ds → Dt K H (.ref a) (.tuple ds)
  | exc {a : Addr} {D : Addr} : H a = some (ExK (.ref D) none a) → Dt K H (.ref a) (.dict [(.int (D : Int), .none)])
inductive DtA (K : PySem.W.Frag) (H : Hp) : List V → List PyData → Prop
  | nil : DtA K H [] []
  | cons {v : V} {vs : List V} {d : PyData} {ds : List PyData} : Dt K H v d → DtA K H vs ds → DtA K H (v :: vs) (d :: ds)
end
section
variable {K : PySem.W.Frag} {H H' : Hp}
theorem same_rd {a : Addr} {u : HO} (e : Same H H') (h : Rd H a u) : Rd H' a u := by
  rcases h with h | ⟨o, h⟩
  · exact .inl (e _ _ h)
  · exact .inr ⟨o, e _ _ h⟩
theorem same_sqT {a : Addr} {xs : List V} (e : Same H H') (h : SqT K H a xs) : SqT K H' a xs := by
  rcases h with h | h
  · exact .inl (same_rd e h)
  · exact .inr h
mutual
theorem Dt.mono (e : Same H H') : ∀ {v : V} {d : PyData}, Dt K H v d → Dt K H' v d
  | _, _, .non => .non
  | _, _, .bl b => .bl b
  | _, _, .int i => .int i
  | _, _, .str x => .str x
  | _, _, .lst h a => .lst (e _ _ h) (DtA.mono e a)
  | _, _, .tup h a => .tup (same_sqT e h) (DtA.mono e a)
  | _, _, .exc h => .exc (e _ _ h)
theorem DtA.mono (e : Same H H') : ∀ {vs : List V} {ds : List PyData}, DtA K H vs ds → DtA K H' vs ds
  | _, _, .nil => .nil
  | _, _, .cons h a => .cons (Dt.mono e h) (DtA.mono e a)
end
mutual
theorem Dt.dp : ∀ {v : V} {d : PyData}, Dt K H v d → d.canLay0 = true → Dp K H v d
  | _, _, .non, _ => .non
  | _, _, .bl b, _ => .bl b
  | _, _, .int i, _ => .int i
  | _, _, .str x, _ => .str x
  | _, _, .lst h a, c => .lst (.inl (.inl h)) (DtA.dp a c)
  | _, _, .tup h a, c => .tup h (DtA.dp a c)
  | _, _, .exc _, c => absurd c (by simp [PyData.canLay0])
theorem DtA.dp : ∀ {vs : List V} {ds : List PyData}, DtA K H vs ds → PyData.canLayAll0 ds = true → DpAll K H vs ds
  | _, _, .nil, _ => .nil
  | _, _, .cons h a, c => .cons (Dt.dp h (Bool.and_eq_true_iff.mp c).1) (DtA.dp a (Bool.and_eq_true_iff.mp c).2)
end
theorem DtA.len : ∀ {vs : List V} {ds : List PyData}, DtA K H vs ds → vs.length = ds.length
  | _, _, .nil => rfl
  | _, _, .cons _ a => by rw [List.length_cons, List.length_cons, DtA.len a]
theorem DtA.app : ∀ {vs ws : List V} {ds es : List PyData}, DtA K H vs ds → DtA K H ws es → DtA K H (vs ++ ws) (ds ++ es)
  | _, _, _, _, .nil, b => b
  | _, _, _, _, .cons h a, b => .cons h (DtA.app a b)
theorem DtA.one {v : V} {d : PyData} (h : Dt K H v d) : DtA K H [v] [d] := .cons h .nil
theorem DtA.get : ∀ {vs : List V} {ds : List PyData} {i : Nat} {d : PyData}, DtA K H vs ds → ds[i]? = some d → ∃ v, vs[i]? = some v ∧ Dt K H v d
  | _, _, _, _, .nil, e => by simp at e
  | _, _, 0, _, .cons h _, e => by
    simp at e
    subst e
    exact ⟨_, rfl, h⟩
  | _, _, i + 1, _, .cons _ a, e => by
    obtain ⟨v, h1, h2⟩ := DtA.get (i := i) a (by simpa using e)
    exact ⟨v, by simpa using h1, h2⟩
theorem DtA.get' : ∀ {vs : List V} {ds : List PyData} {i : Nat} {v : V}, DtA K H vs ds → vs[i]? = some v → ∃ d, ds[i]? = some d ∧ Dt K H v d
  | _, _, _, _, .nil, e => by simp at e
  | _, _, 0, _, .cons h _, e => by
    simp at e
    subst e
    exact ⟨_, rfl, h⟩
  | _, _, i + 1, _, .cons _ a, e => by
    obtain ⟨v, h1, h2⟩ := DtA.get' (i := i) a (by simpa using e)
    exact ⟨v, by simpa using h1, h2⟩
theorem DtA.take : ∀ {vs : List V} {ds : List PyData} (n : Nat), DtA K H vs ds → DtA K H (vs.take n) (ds.take n)
  | _, _, 0, _ => .nil
  | _, _, _ + 1, .nil => .nil
  | _, _, n + 1, .cons h a => .cons h (DtA.take n a)
theorem DtA.drop : ∀ {vs : List V} {ds : List PyData} (n : Nat), DtA K H vs ds → DtA K H (vs.drop n) (ds.drop n)
  | _, _, 0, a => a
  | _, _, _ + 1, .nil => .nil
  | _, _, n + 1, .cons _ a => DtA.drop n a
theorem DtA.erase : ∀ {vs : List V} {ds : List PyData} (n : Nat), DtA K H vs ds → DtA K H (vs.eraseIdx n) (ds.eraseIdx n)
  | _, _, _, .nil => .nil
  | _, _, 0, .cons _ a => a
  | _, _, n + 1, .cons h a => .cons h (DtA.erase n a)
theorem DtA.dropLast : ∀ {vs : List V} {ds : List PyData}, DtA K H vs ds → DtA K H vs.dropLast ds.dropLast := fun {vs ds} a => by
  rw [List.dropLast_eq_take, List.dropLast_eq_take, a.len]
  exact a.take _
theorem DtA.ints : ∀ ns : List Int, DtA K H (ns.map V.int) (ns.map PyData.int)
  | [] => .nil
  | n :: r => .cons (.int n) (DtA.ints r)
theorem DtA.strs : ∀ ns : List Str, DtA K H (ns.map V.str) (ns.map PyData.str)
  | [] => .nil
  | n :: r => .cons (.str n) (DtA.strs r)
theorem DtA.strs_inv : ∀ {ns : List Str} {vs : List V}, DtA K H vs (ns.map PyData.str) → vs = ns.map V.str
  | [], _, .nil => rfl
  | n :: r, _, .cons h a => by
    cases h
    rw [DtA.strs_inv a]
    rfl
theorem DtA.ints_inv : ∀ {ns : List Int} {vs : List V}, DtA K H vs (ns.map PyData.int) → vs = ns.map V.int
  | [], _, .nil => rfl
  | n :: r, _, .cons h a => by
    cases h
    rw [DtA.ints_inv a]
    rfl
theorem Dt.str_inv {v : V} {x : Str} (h : Dt K H v (.str x)) : v = .str x := by cases h; rfl
theorem Dt.int_inv {v : V} {x : Int} (h : Dt K H v (.int x)) : v = .int x := by cases h; rfl
theorem Dt.bl_inv {v : V} {x : Bool} (h : Dt K H v (.bool x)) : v = .bl x := by cases h; rfl
theorem Dt.non_inv {v : V} (h : Dt K H v .none) : v = .non := by cases h; rfl
theorem Dt.tup_inv {v : V} {ds : List PyData} (h : Dt K H v (.tuple ds)) : ∃ a xs, v = .ref a ∧ SqT K H a xs ∧ DtA K H xs ds := by
  cases h with
  | tup h a => exact ⟨_, _, rfl, h, a⟩
theorem Dt.lst_inv {v : V} {ds : List PyData} (h : Dt K H v (.list ds)) : ∃ a xs, v = .ref a ∧ H a = some (.lst xs) ∧ DtA K H xs ds := by
  cases h with
  | lst h a => exact ⟨_, _, rfl, h, a⟩
end

/-! ### what a slot holds -/
/-- data, a Words of these kinds and ties, or just this value -/
inductive Dx where
  | d (x : PyData) | w (ks ts : List Str) | raw (v : V)
/-- .. or a list that is the def's own -/
inductive En where
  | x (x : Dx) | own (ds : List PyData)
def En.isOwn : En → Bool
  | .own _ => true
  | _ => false
/-- a Words: C its class -/
def IsW (K : PySem.W.Frag) (C : Addr) (H : Hp) (v : V) (ks ts : List Str) : Prop := ∃ a dx vk vt, v = .ref a ∧ H a = some (.ins C dx [("w_kinds", vk), ("w_ties", vt)]) ∧ Dt K H vk (.tuple (ks.map .str)) ∧ Dt K H vt (.tuple (ts.map .str))
def Rx (K : PySem.W.Frag) (C : Addr) (H : Hp) (v : V) : Dx → Prop
  | .d x => Dt K H v x
  | .w ks ts => IsW K C H v ks ts
  | .raw u => v = u
theorem IsW.mono {K : PySem.W.Frag} {C : Addr} {H H' : Hp} {v : V} {ks ts : List Str} (e : Same H H') (h : IsW K C H v ks ts) : IsW K C H' v ks ts := by
  obtain ⟨a, dx, vk, vt, e1, e2, e3, e4⟩ := h
  exact ⟨a, dx, vk, vt, e1, e _ _ e2, e3.mono e, e4.mono e⟩
theorem Rx.mono {K : PySem.W.Frag} {C : Addr} {H H' : Hp} {v : V} {x : Dx} (e : Same H H') (h : Rx K C H v x) : Rx K C H' v x := by
  cases x with
  | d x => exact Dt.mono e h
  | w ks ts => exact IsW.mono e h
  | raw u => exact h
/-- what stays while a def's body runs: the heap at its entry, what is hidden of it, what of that may change -/
structure Cn where
  K : PySem.W.Frag
  C : Addr
  H0 : Hp
  P : Addr → Prop
  Mt : Addr → Prop
  mp : ∀ b, Mt b → P b
  n : Nat
/-- the state: what is known of the hidden things, the slots -/
structure Stt where
  W : Hp → Prop
  G : List (Option En)
def Stt.owns (S : Stt) (A : Nat → Addr) (b : Addr) : Prop := ∃ (i : Nat) (ds : List PyData), S.G[i]? = some (some (En.own ds)) ∧ b = A i
open Classical in
noncomputable def hidP (P : Addr → Prop) (H : Hp) : Hp := fun b => if P b then none else H b
noncomputable def hid (c : Cn) (A : Nat → Addr) (S : Stt) (H : Hp) : Hp := hidP (fun b => c.P b ∨ S.owns A b) H
theorem hidP_pos {P : Addr → Prop} {H : Hp} {b : Addr} (h : P b) : hidP P H b = none := by
  unfold hidP
  rw [if_pos h]
theorem hidP_neg {P : Addr → Prop} {H : Hp} {b : Addr} (h : ¬ P b) : hidP P H b = H b := by
  unfold hidP
  rw [if_neg h]
theorem hidP_some {P : Addr → Prop} {H : Hp} {b : Addr} {o : HO} (h : hidP P H b = some o) : H b = some o ∧ ¬ P b := by
  by_cases hp : P b
  · rw [hidP_pos hp] at h
    cases h
  · rw [hidP_neg hp] at h
    exact ⟨h, hp⟩
theorem hidP_le {P : Addr → Prop} {H : Hp} : Same (hidP P H) H := fun b o e => (hidP_some e).1
theorem hidP_sub {P R : Addr → Prop} {H H' : Hp} (hp : ∀ b, R b → P b) (hs : ∀ b o, ¬ P b → H b = some o → H' b = some o) : Same (hidP P H) (hidP R H') := fun b o e => by
  obtain ⟨e1, e2⟩ := hidP_some e
  rw [hidP_neg fun z => e2 (hp b z)]
  exact hs b o e2 e1
theorem hidP_mut {P : Addr → Prop} {H : Hp} {l : Addr} {o : HO} (h : P l) : hidP P (upd H l o) = hidP P H := by
  funext b
  by_cases hb : P b
  · rw [hidP_pos hb, hidP_pos hb]
  · rw [hidP_neg hb, hidP_neg hb, upd_ne (show b ≠ l from fun z => hb (by rw [z]; exact h))]
/-- what is hidden stays, and all but lists -/
structure Kp (P : Addr → Prop) (H H' : Hp) : Prop where
  p : ∀ b, P b → H' b = H b
  n : ∀ b o, (∀ xs, o ≠ .lst xs) → H b = some o → H' b = some o
/-- the state is held -/
structure Sl (c : Cn) (A : Nat → Addr) (S : Stt) (σ : L2.St) (H : Hp) : Prop where
  len : σ.length = c.n
  le : c.n ≤ S.G.length
  sm : ∀ b o, ¬ c.Mt b → c.H0 b = some o → H b = some o
  al : ∀ b, c.P b → H b ≠ none
  wk : S.W H
  wst : ∀ H H' : Hp, Kp c.P H H' → S.W H → S.W H'
  own : ∀ (i : Nat) (ds : List PyData), S.G[i]? = some (some (En.own ds)) → (i < c.n → σ[i]? = some (some (.ref (A i)))) ∧ c.H0 (A i) = none ∧ ¬ c.P (A i) ∧ ∃ xs, H (A i) = some (.lst xs) ∧ DtA c.K (hid c A S H) xs ds
  inj : ∀ (i j : Nat) (ds es : List PyData), S.G[i]? = some (some (En.own ds)) → S.G[j]? = some (some (En.own es)) → A i = A j → i = j
  val : ∀ (i : Nat) (x : Dx), i < c.n → S.G[i]? = some (some (En.x x)) → ∃ v, σ[i]? = some (some v) ∧ Rx c.K c.C (hid c A S H) v x
/-- behind a def: what stays, what is known of the hidden things -/
structure Lf (c : Cn) (W : Hp → Prop) (H : Hp) : Prop where
  sm : ∀ b o, ¬ c.Mt b → c.H0 b = some o → H b = some o
  al : ∀ b, c.P b → H b ≠ none
  wk : W H
theorem Sl.lf {c : Cn} {A : Nat → Addr} {S : Stt} {σ : L2.St} {H : Hp} (L : Sl c A S σ H) : Lf c S.W H := ⟨L.sm, L.al, L.wk⟩
theorem Sl.hidAlive {c : Cn} {A : Nat → Addr} {S : Stt} {σ : L2.St} {H : Hp} (L : Sl c A S σ H) {b : Addr} (h : c.P b ∨ S.owns A b) : H b ≠ none := by
  rcases h with h | ⟨i, ds, e, rfl⟩
  · exact L.al b h
  · obtain ⟨_, _, _, xs, q, _⟩ := L.own i ds e
    rw [q]
    exact fun z => by cases z
/-- a new object stands outside of what is hidden -/
theorem Sl.new {c : Cn} {A : Nat → Addr} {S : Stt} {σ : L2.St} {H : Hp} (L : Sl c A S σ H) {p : Addr} (hp : H p = none) : ¬ (c.P p ∨ S.owns A p) := fun h => L.hidAlive h hp
/-- more objects, all else as it was -/
theorem Sl.grow {c : Cn} {A : Nat → Addr} {S : Stt} {σ : L2.St} {H H' : Hp} (L : Sl c A S σ H) (e : Same H H') : Sl c A S σ H' ∧ Same (hid c A S H) (hid c A S H') := by
  have hs : Same (hid c A S H) (hid c A S H') := hidP_sub (fun _ z => z) fun b o _ q => e b o q
  have hP : ∀ b, c.P b → H' b = H b := fun b hb => by
    cases q : H b with
    | none => exact absurd q (L.al b hb)
    | some o => exact e b o q
  refine ⟨⟨L.len, L.le, fun b o m q => e b o (L.sm b o m q), fun b hb z => L.al b hb (by rw [← hP b hb]; exact z), L.wst H H' ⟨hP, fun b o _ q => e b o q⟩ L.wk, L.wst, fun i ds q => ?_, L.inj, fun i x hi q => ?_⟩, hs⟩
  · obtain ⟨e1, e2, e3, xs, e4, e5⟩ := L.own i ds q
    exact ⟨e1, e2, e3, xs, e _ _ e4, e5.mono hs⟩
  · obtain ⟨v, e1, e2⟩ := L.val i x hi q
    exact ⟨v, e1, e2.mono hs⟩
/-! ### what an expression, a test, arguments evaluate to -/
def EvS (c : Cn) (S : Stt) (te : TE) (x : Dx) (S' : Stt) : Prop := ∀ A σ H, Sl c A S σ H → ∀ Q : VK, (∀ v H', Sl c A S' σ H' → Same (hid c A S H) (hid c A S' H') → Rx c.K c.C (hid c A S' H') v x → Q v H') → te σ H Q
def EvB (c : Cn) (S : Stt) (tt : TT) (b : Bool) (S' : Stt) : Prop := ∀ A σ H, Sl c A S σ H → ∀ Q : Bool → Hp → Prop, (∀ H', Sl c A S' σ H' → Same (hid c A S H) (hid c A S' H') → Q b H') → tt σ H Q
inductive RxA (K : PySem.W.Frag) (C : Addr) (H : Hp) : List V → List Dx → Prop
  | nil : RxA K C H [] []
  | cons {v : V} {vs : List V} {x : Dx} {xs : List Dx} : Rx K C H v x → RxA K C H vs xs → RxA K C H (v :: vs) (x :: xs)
theorem RxA.mono {K : PySem.W.Frag} {C : Addr} {H H' : Hp} (e : Same H H') : ∀ {vs : List V} {xs : List Dx}, RxA K C H vs xs → RxA K C H' vs xs
  | _, _, .nil => .nil
  | _, _, .cons h a => .cons (Rx.mono e h) (RxA.mono e a)
theorem RxA.dta {K : PySem.W.Frag} {C : Addr} {H : Hp} : ∀ {vs : List V} {ds : List PyData}, RxA K C H vs (ds.map Dx.d) → DtA K H vs ds
  | _, [], .nil => .nil
  | _, _ :: _, .cons h a => .cons h (RxA.dta a)
def EvA (c : Cn) (S : Stt) (ta : TA) (xs : List Dx) (S' : Stt) : Prop := ∀ A σ H, Sl c A S σ H → ∀ Q : List V → Hp → Prop, (∀ vs H', Sl c A S' σ H' → Same (hid c A S H) (hid c A S' H') → RxA c.K c.C (hid c A S' H') vs xs → Q vs H') → ta σ H Q
section
variable {c : Cn} {S S1 S2 S3 : Stt} {ta tb te : TE} {x y z : Dx} {t u : TT} {a b : Bool}
theorem ev_var {i : Nat} (hi : i < c.n) (h : S.G[i]? = some (some (En.x x))) : EvS c S (tVar i) x S := fun A σ H L Q q => by
  obtain ⟨v, e1, e2⟩ := L.val i x hi h
  exact ⟨v, e1, q v H L (Same.refl _) e2⟩
theorem ev_str {s : Str} : EvS c S (tC (.str s)) (.d (.str s)) S := fun A σ H L Q q => q _ H L (Same.refl _) (Dt.str s)
theorem ev_int {i : Int} : EvS c S (tC (.int i)) (.d (.int i)) S := fun A σ H L Q q => q _ H L (Same.refl _) (Dt.int i)
theorem ev_bl {b : Bool} : EvS c S (tC (.bl b)) (.d (.bool b)) S := fun A σ H L Q q => q _ H L (Same.refl _) (Dt.bl b)
theorem ev_non : EvS c S (tC .non) (.d .none) S := fun A σ H L Q q => q _ H L (Same.refl _) Dt.non
theorem ev_raw {v : V} : EvS c S (tC v) (.raw v) S := fun A σ H L Q q => q _ H L (Same.refl _) rfl
/-- a module's tuple -/
theorem ev_glob {a : Addr} {xs : List V} {ds : List PyData} (h : ∀ H, SqT c.K H a xs) (hd : ∀ H, DtA c.K H xs ds) : EvS c S (tC (.ref a)) (.d (.tuple ds)) S := fun A σ H L Q q => q _ H L (Same.refl _) (Dt.tup (h _) (hd _))
/-- an operation on two values -/
def RvS (c : Cn) (S : Stt) (r : R2) (x y z : Dx) : Prop := ∀ A σ H, Sl c A S σ H → ∀ v u, Rx c.K c.C (hid c A S H) v x → Rx c.K c.C (hid c A S H) u y → ∀ Q : VK, (∀ w H', Same H H' → Rx c.K c.C (hid c A S H') w z → Q w H') → r v u H Q
theorem ev_op {r : R2} (ha : EvS c S ta x S1) (hb : EvS c S1 tb y S2) (hr : RvS c S2 r x y z) : EvS c S (tOp r ta tb) z S2 := fun A σ H L Q q =>
  ha A σ H L _ fun v H1 L1 e1 r1 => hb A σ H1 L1 _ fun u H2 L2 e2 r2 => hr A σ H2 L2 v u (r1.mono e2) r2 Q fun w H3 e3 r3 => by
    obtain ⟨L3, e4⟩ := L2.grow e3
    exact q w H3 L3 ((e1.trans e2).trans e4) r3
theorem eb_test (h : EvS c S te (.d (.bool b)) S1) : EvB c S (tTest te) b S1 := fun A σ H L Q q => h A σ H L _ fun v H1 L1 e1 r1 => ⟨b, Dt.bl_inv r1, q H1 L1 e1⟩
theorem eb_B (h : EvS c S te (.d (.bool b)) S1) : EvB c S (tB te) b S1 := fun A σ H L Q q => h A σ H L _ fun v H1 L1 e1 r1 => ⟨b, Dt.bl_inv r1, q H1 L1 e1⟩
theorem eb_and0 (h : EvB c S t false S1) : EvB c S (tAnd t u) false S1 := fun A σ H L Q q => h A σ H L _ fun H1 L1 e1 => by
  rw [if_neg Bool.false_ne_true]
  exact q H1 L1 e1
theorem eb_and1 (h : EvB c S t true S1) (k : EvB c S1 u b S2) : EvB c S (tAnd t u) b S2 := fun A σ H L Q q => h A σ H L _ fun H1 L1 e1 => by
  rw [if_pos rfl]
  exact k A σ H1 L1 _ fun H2 L2 e2 => q H2 L2 (e1.trans e2)
theorem eb_or1 (h : EvB c S t true S1) : EvB c S (tOr t u) true S1 := fun A σ H L Q q => h A σ H L _ fun H1 L1 e1 => by
  rw [if_pos rfl]
  exact q H1 L1 e1
theorem eb_or0 (h : EvB c S t false S1) (k : EvB c S1 u b S2) : EvB c S (tOr t u) b S2 := fun A σ H L Q q => h A σ H L _ fun H1 L1 e1 => by
  rw [if_neg Bool.false_ne_true]
  exact k A σ H1 L1 _ fun H2 L2 e2 => q H2 L2 (e1.trans e2)
theorem eb_not (h : EvB c S t b S1) : EvB c S (tNot t) (!b) S1 := fun A σ H L Q q => h A σ H L _ fun H1 L1 e1 => q H1 L1 e1
theorem ev_and0 (h : EvS c S ta (.d (.bool false)) S1) : EvS c S (tAndV ta tb) (.d (.bool false)) S1 := fun A σ H L Q q => h A σ H L _ fun v H1 L1 e1 r1 => ⟨false, Dt.bl_inv r1, by
  rw [if_neg Bool.false_ne_true]
  exact q _ H1 L1 e1 (Dt.bl false)⟩
theorem ev_and1 (h : EvS c S ta (.d (.bool true)) S1) (k : EvS c S1 tb x S2) : EvS c S (tAndV ta tb) x S2 := fun A σ H L Q q => h A σ H L _ fun v H1 L1 e1 r1 => ⟨true, Dt.bl_inv r1, by
  rw [if_pos rfl]
  exact k A σ H1 L1 _ fun v H2 L2 e2 r2 => q v H2 L2 (e1.trans e2) r2⟩
theorem ev_or1 (h : EvS c S ta (.d (.bool true)) S1) : EvS c S (tOrV ta tb) (.d (.bool true)) S1 := fun A σ H L Q q => h A σ H L _ fun v H1 L1 e1 r1 => ⟨true, Dt.bl_inv r1, by
  rw [if_pos rfl]
  exact q _ H1 L1 e1 (Dt.bl true)⟩
theorem ev_or0 (h : EvS c S ta (.d (.bool false)) S1) (k : EvS c S1 tb x S2) : EvS c S (tOrV ta tb) x S2 := fun A σ H L Q q => h A σ H L _ fun v H1 L1 e1 r1 => ⟨false, Dt.bl_inv r1, by
  rw [if_neg Bool.false_ne_true]
  exact k A σ H1 L1 _ fun v H2 L2 e2 r2 => q v H2 L2 (e1.trans e2) r2⟩
theorem ev_notV (h : EvS c S ta (.d (.bool b)) S1) : EvS c S (tNotV ta) (.d (.bool (!b))) S1 := fun A σ H L Q q => h A σ H L _ fun v H1 L1 e1 r1 => ⟨b, Dt.bl_inv r1, q _ H1 L1 e1 (Dt.bl _)⟩
theorem ev_ifT (h : EvB c S t true S1) (k : EvS c S1 ta x S2) : EvS c S (tIf t ta tb) x S2 := fun A σ H L Q q => h A σ H L _ fun H1 L1 e1 => by
  rw [if_pos rfl]
  exact k A σ H1 L1 _ fun v H2 L2 e2 r2 => q v H2 L2 (e1.trans e2) r2
theorem ev_ifF (h : EvB c S t false S1) (k : EvS c S1 tb x S2) : EvS c S (tIf t ta tb) x S2 := fun A σ H L Q q => h A σ H L _ fun H1 L1 e1 => by
  rw [if_neg Bool.false_ne_true]
  exact k A σ H1 L1 _ fun v H2 L2 e2 r2 => q v H2 L2 (e1.trans e2) r2
theorem ea_nil : EvA c S tNil [] S := fun A σ H L Q q => q [] H L (Same.refl _) .nil
theorem ea_cons {tr : TA} {xs : List Dx} (h : EvS c S te x S1) (k : EvA c S1 tr xs S2) : EvA c S (tCons te tr) (x :: xs) S2 := fun A σ H L Q q =>
  h A σ H L _ fun v H1 L1 e1 r1 => k A σ H1 L1 _ fun vs H2 L2 e2 r2 => q (v :: vs) H2 L2 (e1.trans e2) (.cons (r1.mono e2) r2)
theorem same_new {H : Hp} {p : Addr} {o : HO} (h : H p = none) : Same H (upd H p o) := fun b u e => by
  rw [upd_ne (ne_of_none e h)]
  exact e
theorem ev_tup {t : TA} {ds : List PyData} (h : EvA c S t (ds.map Dx.d) S1) (hl : ds.length ≤ 1000) : EvS c S (tTup t) (.d (.tuple ds)) S1 := fun A σ H L Q q => h A σ H L _ fun vs H1 L1 e1 r1 => by
  have ln := (RxA.dta r1).len
  refine ⟨Nat.le_of_lt (small1000 (by omega)), fun p hp => ?_⟩
  obtain ⟨L2, e2⟩ := L1.grow (same_new (o := .tup vs) hp)
  refine q _ _ L2 (e1.trans e2) (Dt.tup (.inl (.inl ?_)) ((RxA.dta r1).mono e2))
  show hidP _ _ p = _
  rw [hidP_neg (L1.new hp), upd_same]
theorem ev_lst {t : TA} {ds : List PyData} (h : EvA c S t (ds.map Dx.d) S1) (hl : ds.length ≤ 1000) : EvS c S (tLst t) (.d (.list ds)) S1 := fun A σ H L Q q => h A σ H L _ fun vs H1 L1 e1 r1 => by
  have ln := (RxA.dta r1).len
  refine ⟨Nat.le_of_lt (small1000 (by omega)), fun p hp => ?_⟩
  obtain ⟨L2, e2⟩ := L1.grow (same_new (o := .lst vs) hp)
  refine q _ _ L2 (e1.trans e2) (Dt.lst ?_ ((RxA.dta r1).mono e2))
  show hidP _ _ p = _
  rw [hidP_neg (L1.new hp), upd_same]
end
end Tk

/-! TkRun -/
set_option Elab.async false
set_option linter.all false
set_option autoImplicit false
set_option maxRecDepth 100000
set_option maxHeartbeats 2000000
namespace Tk
open PySem PySem.Spec PyProof.Rows L2
/-! ### statements -/
inductive Out where
  | nx (S : Stt) | rt (x : Dx) (W : Hp → Prop) | bk (S : Stt) | ct (S : Stt)
def Wants (c : Cn) (B : Hp) : Out → Ends → Prop
  | .nx S, D => ∀ A σ H, Sl c A S σ H → Same B (hid c A S H) → D.nx σ H
  | .rt x W, D => ∀ v H, Lf c W H → Rx c.K c.C (hidP c.P H) v x → D.rt v H
  | .bk S, D => ∀ A σ H, Sl c A S σ H → Same B (hid c A S H) → D.bk σ H
  | .ct S, D => ∀ A σ H, Sl c A S σ H → Same B (hid c A S H) → D.ct σ H
def RunS (c : Cn) (S : Stt) (ts : TS) (o : Out) : Prop := ∀ A σ H, Sl c A S σ H → ∀ D : Ends, Wants c (hid c A S H) o D → ts D σ H
def Out.isNx : Out → Bool
  | .nx _ => true
  | _ => false
def Stt.put (S : Stt) (i : Nat) (x : Dx) : Stt := ⟨S.W, S.G.set i (some (.x x))⟩
def Stt.own (S : Stt) (i : Nat) (ds : List PyData) : Stt := ⟨S.W, S.G.set i (some (.own ds))⟩
section
variable {c : Cn} {S S1 S2 S3 : Stt} {ta tb te : TE} {x y z : Dx} {t u : TT} {a b : Bool} {ts tu tw : TS} {o : Out}
theorem Wants.up {B B' : Hp} {D : Ends} (e : Same B B') (w : Wants c B o D) : Wants c B' o D := by
  cases o with
  | nx S => exact fun A σ H L s => w A σ H L (e.trans s)
  | rt x W => exact w
  | bk S => exact fun A σ H L s => w A σ H L (e.trans s)
  | ct S => exact fun A σ H L s => w A σ H L (e.trans s)
theorem run_seq (h : RunS c S ts (.nx S1)) (k : RunS c S1 tu o) : RunS c S (tSeq ts tu) o := fun A σ H L D w => h A σ H L { D with nx := tu D } fun A1 σ1 H1 L1 s1 => k A1 σ1 H1 L1 D (w.up s1)
theorem run_stop (h : RunS c S ts o) (n : o.isNx = false) : RunS c S (tSeq ts tu) o := fun A σ H L D w => h A σ H L { D with nx := tu D } (by
  cases o with
  | nx S => cases n
  | rt x W => exact w
  | bk S => exact w
  | ct S => exact w)
theorem run_next : RunS c S tNext (.nx S) := fun A σ H L D w => w A σ H L (Same.refl _)
theorem run_brk : RunS c S tBreak (.bk S) := fun A σ H L D w => w A σ H L (Same.refl _)
theorem run_cont : RunS c S tCont (.ct S) := fun A σ H L D w => w A σ H L (Same.refl _)
theorem run_ret (h : EvS c S te x S1) : RunS c S (tRet te) (.rt x S1.W) := fun A σ H L D w => h A σ H L _ fun v H1 L1 e1 r1 => w v H1 L1.lf (r1.mono (hidP_sub (fun b z => .inl z) fun b o _ q => q))
theorem run_retN : RunS c S tRetN (.rt (.d .none) S.W) := fun A σ H L D w => w _ H L.lf Dt.non
theorem run_ifT (h : EvB c S t true S1) (k : RunS c S1 tu o) : RunS c S (tIfS t tu tw) o := fun A σ H L D w => h A σ H L _ fun H1 L1 e1 => by
  rw [if_pos rfl]
  exact k A σ H1 L1 D (w.up e1)
theorem run_ifF (h : EvB c S t false S1) (k : RunS c S1 tw o) : RunS c S (tIfS t tu tw) o := fun A σ H L D w => h A σ H L _ fun H1 L1 e1 => by
  rw [if_neg Bool.false_ne_true]
  exact k A σ H1 L1 D (w.up e1)
theorem run_drop (h : EvS c S te x S1) : RunS c S (tDrop te) (.nx S1) := fun A σ H L D w => h A σ H L _ fun v H1 L1 e1 r1 => w A σ H1 L1 e1
theorem owns_put {A : Nat → Addr} {i : Nat} {b : Addr} : (S.put i x).owns A b → S.owns A b := fun ⟨j, ds, e, q⟩ => by
  by_cases hj : i = j
  · subst hj
    by_cases hl : i < S.G.length
    · rw [Stt.put, List.getElem?_set_self hl] at e
      cases e
    · rw [Stt.put, List.getElem?_eq_none (by rw [List.length_set]; omega)] at e
      cases e
  · rw [Stt.put, List.getElem?_set_ne hj] at e
    exact ⟨j, ds, e, q⟩
theorem Sl.put {A : Nat → Addr} {σ : L2.St} {H : Hp} {i : Nat} {v : V} (L : Sl c A S σ H) (r : Rx c.K c.C (hid c A S H) v x) : Sl c A (S.put i x) (σ.set i (some v)) H ∧ Same (hid c A S H) (hid c A (S.put i x) H) := by
  have hs : Same (hid c A S H) (hid c A (S.put i x) H) := hidP_sub (fun b z => z.imp id owns_put) fun b o _ q => q
  have len := L.len
  refine ⟨⟨by rw [List.length_set, len], by rw [Stt.put, List.length_set]; exact L.le, L.sm, L.al, L.wk, L.wst, fun j ds q => ?_, fun j k ds es q1 q2 e => ?_, fun j y hjn q => ?_⟩, hs⟩
  · by_cases hj : i = j
    · subst hj
      exact absurd q (by
        by_cases hl : i < S.G.length
        · rw [Stt.put, List.getElem?_set_self hl]
          exact fun z => by cases z
        · rw [Stt.put, List.getElem?_eq_none (by rw [List.length_set]; omega)]
          exact fun z => by cases z)
    · rw [Stt.put, List.getElem?_set_ne hj] at q
      obtain ⟨e1, e2, e3, xs, e4, e5⟩ := L.own j ds q
      exact ⟨fun hn => by rw [List.getElem?_set_ne hj]; exact e1 hn, e2, e3, xs, e4, e5.mono hs⟩
  · have g : ∀ (j : Nat) (ds : List PyData), (S.put i x).G[j]? = some (some (En.own ds)) → S.G[j]? = some (some (En.own ds)) := fun j ds q => by
      by_cases hj : i = j
      · subst hj
        exact absurd q (by
          by_cases hl : i < S.G.length
          · rw [Stt.put, List.getElem?_set_self hl]
            exact fun z => by cases z
          · rw [Stt.put, List.getElem?_eq_none (by rw [List.length_set]; omega)]
            exact fun z => by cases z)
      · rw [Stt.put, List.getElem?_set_ne hj] at q
        exact q
    exact L.inj j k ds es (g j ds q1) (g k es q2) e
  · by_cases hj : i = j
    · subst hj
      by_cases hl : i < S.G.length
      · rw [Stt.put, List.getElem?_set_self hl] at q
        cases q
        exact ⟨v, by rw [List.getElem?_set_self (by omega)], r.mono hs⟩
      · rw [Stt.put, List.getElem?_eq_none (by rw [List.length_set]; omega)] at q
        cases q
    · rw [Stt.put, List.getElem?_set_ne hj] at q
      obtain ⟨v', e1, e2⟩ := L.val j y hjn q
      exact ⟨v', by rw [List.getElem?_set_ne hj]; exact e1, e2.mono hs⟩
theorem run_set {i : Nat} (h : EvS c S te x S1) : RunS c S (tAsg te (gName i)) (.nx (S1.put i x)) := fun A σ H L D w => h A σ H L _ fun v H1 L1 e1 r1 => w A _ H1 (L1.put r1).1 (e1.trans (L1.put r1).2)
/-- a new list for the def's own use -/
def EvO (c : Cn) (S : Stt) (te : TE) (ds : List PyData) (S' : Stt) : Prop := ∀ A σ H, Sl c A S σ H → ∀ Q : VK, (∀ p xs H1, Sl c A S' σ H1 → Same (hid c A S H) (hid c A S' H1) → DtA c.K (hid c A S' H1) xs ds → H1 p = none → Q (.ref p) (upd H1 p (.lst xs))) → te σ H Q
theorem eo_lst {t : TA} {ds : List PyData} (h : EvA c S t (ds.map Dx.d) S1) (hl : ds.length ≤ 1000) : EvO c S (tLst t) ds S1 := fun A σ H L Q q => h A σ H L _ fun vs H1 L1 e1 r1 => by
  have ln := (RxA.dta r1).len
  exact ⟨Nat.le_of_lt (small1000 (by omega)), fun p hp => q p vs H1 L1 e1 (RxA.dta r1) hp⟩
def setA (A : Nat → Addr) (i : Nat) (p : Addr) : Nat → Addr := fun j => if j = i then p else A j
theorem setA_same {A : Nat → Addr} {i : Nat} {p : Addr} : setA A i p i = p := if_pos rfl
theorem setA_ne {A : Nat → Addr} {i j : Nat} {p : Addr} (h : ¬ i = j) : setA A i p j = A j := if_neg (Ne.symm h)
theorem owns_own {A : Nat → Addr} {i : Nat} {p b : Addr} {ds : List PyData} : (S.own i ds).owns (setA A i p) b → b = p ∨ S.owns A b := fun ⟨j, es, e, q⟩ => by
  by_cases hj : i = j
  · subst hj
    rw [setA_same] at q
    exact .inl q
  · rw [Stt.own, List.getElem?_set_ne hj] at e
    rw [setA_ne hj] at q
    exact .inr ⟨j, es, e, q⟩
theorem Sl.mkOwn {A : Nat → Addr} {σ : L2.St} {H : Hp} {i : Nat} {p : Addr} {xs : List V} {ds : List PyData} (hi : i < S.G.length) (L : Sl c A S σ H) (hx : DtA c.K (hid c A S H) xs ds) (hp : H p = none) :
    Sl c (setA A i p) (S.own i ds) (σ.set i (some (.ref p))) (upd H p (.lst xs)) ∧ Same (hid c A S H) (hid c (setA A i p) (S.own i ds) (upd H p (.lst xs))) := by
  have np := L.new hp
  have len := L.len
  have hs : Same (hid c A S H) (hid c (setA A i p) (S.own i ds) (upd H p (.lst xs))) := fun b o e => by
    obtain ⟨e1, e2⟩ := hidP_some e
    have nb : b ≠ p := ne_of_none e1 hp
    have nn : ¬ (c.P b ∨ (S.own i ds).owns (setA A i p) b) := fun z => by
      rcases z with z | z
      · exact e2 (.inl z)
      · rcases owns_own z with z | z
        · exact nb z
        · exact e2 (.inr z)
    show hidP _ _ b = _
    rw [hidP_neg nn, upd_ne nb]
    exact e1
  have ne : ∀ (j : Nat) (es : List PyData), S.G[j]? = some (some (En.own es)) → A j ≠ p := fun j es q z => np (.inr ⟨j, es, q, z.symm⟩)
  have h0 : c.H0 p = none := by
    cases e : c.H0 p with
    | none => rfl
    | some o =>
      by_cases m : c.Mt p
      · exact absurd hp (L.al p (c.mp p m))
      · rw [L.sm p o m e] at hp
        cases hp
  have old : ∀ (j : Nat) (es : List PyData), ¬ i = j → (S.own i ds).G[j]? = some (some (En.own es)) → S.G[j]? = some (some (En.own es)) := fun j es hj q => by
    rw [Stt.own, List.getElem?_set_ne hj] at q
    exact q
  refine ⟨⟨by rw [List.length_set, len], by rw [Stt.own, List.length_set]; exact L.le, fun b o m q => ?_, fun b hb => ?_, ?_, L.wst, fun j es q => ?_, fun j k es fs q1 q2 e => ?_, fun j y hjn q => ?_⟩, hs⟩
  · have e1 := L.sm b o m q
    rw [upd_ne (ne_of_none e1 hp)]
    exact e1
  · rw [upd_ne (fun z => np (.inl (by rw [← z]; exact hb)))]
    exact L.al b hb
  · exact L.wst H _ ⟨fun b hb => upd_ne (fun z => np (.inl (by rw [← z]; exact hb))), fun b o _ q => by rw [upd_ne (ne_of_none q hp)]; exact q⟩ L.wk
  · by_cases hj : i = j
    · subst hj
      rw [Stt.own, List.getElem?_set_self hi] at q
      cases q
      refine ⟨fun hn => by rw [List.getElem?_set_self (by omega), setA_same], by rw [setA_same]; exact h0, fun z => np (.inl (by rw [setA_same] at z; exact z)), xs, by rw [setA_same, upd_same], hx.mono hs⟩
    · have q' := old j es hj q
      obtain ⟨e1, e2, e3, ys, e4, e5⟩ := L.own j es q'
      refine ⟨fun hn => by rw [List.getElem?_set_ne hj, setA_ne hj]; exact e1 hn, by rw [setA_ne hj]; exact e2, by rw [setA_ne hj]; exact e3, ys, ?_, e5.mono hs⟩
      rw [setA_ne hj, upd_ne (ne j es q')]
      exact e4
  · by_cases hj : i = j
    · by_cases hk : i = k
      · rw [← hj, ← hk]
      · subst hj
        rw [setA_same, setA_ne hk] at e
        exact absurd e.symm (ne k fs (old k fs hk q2))
    · by_cases hk : i = k
      · subst hk
        rw [setA_same, setA_ne hj] at e
        exact absurd e (ne j es (old j es hj q1))
      · rw [setA_ne hj, setA_ne hk] at e
        exact L.inj j k es fs (old j es hj q1) (old k fs hk q2) e
  · by_cases hj : i = j
    · subst hj
      rw [Stt.own, List.getElem?_set_self hi] at q
      cases q
    · rw [Stt.own, List.getElem?_set_ne hj] at q
      obtain ⟨v, e1, e2⟩ := L.val j y hjn q
      exact ⟨v, by rw [List.getElem?_set_ne hj]; exact e1, e2.mono hs⟩
theorem run_own {i : Nat} {ds : List PyData} (h : EvO c S te ds S1) (hi : i < S1.G.length) : RunS c S (tAsg te (gName i)) (.nx (S1.own i ds)) := fun A σ H L D w => h A σ H L _ fun p xs H1 L1 e1 r1 hp => w (setA A i p) _ _ (L1.mkOwn hi r1 hp).1 (e1.trans (L1.mkOwn hi r1 hp).2)
/-- an own list changed where it stands -/
theorem Sl.chg {A : Nat → Addr} {σ : L2.St} {H : Hp} {i : Nat} {ds es : List PyData} {ys : List V} (L : Sl c A S σ H) (hi : S.G[i]? = some (some (En.own ds))) (hy : DtA c.K (hid c A S H) ys es) :
    Sl c A (S.own i es) σ (upd H (A i) (.lst ys)) ∧ Same (hid c A S H) (hid c A (S.own i es) (upd H (A i) (.lst ys))) := by
  obtain ⟨e1, e2, e3, xs, e4, e5⟩ := L.own i ds hi
  have hil : i < S.G.length := (List.getElem?_eq_some_iff.mp hi).1
  have ow : ∀ b, (S.own i es).owns A b → S.owns A b := fun b ⟨j, fs, q, z⟩ => by
    by_cases hj : i = j
    · subst hj
      exact ⟨i, ds, hi, z⟩
    · rw [Stt.own, List.getElem?_set_ne hj] at q
      exact ⟨j, fs, q, z⟩
  have hs : Same (hid c A S H) (hid c A (S.own i es) (upd H (A i) (.lst ys))) := hidP_sub (fun b z => z.imp id (ow b)) fun b o n q => by
    rw [upd_ne (fun z => n (.inr ⟨i, ds, hi, z⟩))]
    exact q
  have old : ∀ (j : Nat) (fs : List PyData), ¬ i = j → (S.own i es).G[j]? = some (some (En.own fs)) → S.G[j]? = some (some (En.own fs)) := fun j fs hj q => by
    rw [Stt.own, List.getElem?_set_ne hj] at q
    exact q
  have nP : ∀ b, c.P b → b ≠ A i := fun b hb z => e3 (by rw [← z]; exact hb)
  refine ⟨⟨L.len, by rw [Stt.own, List.length_set]; exact L.le, fun b o m q => ?_, fun b hb => by rw [upd_ne (nP b hb)]; exact L.al b hb, L.wst H _ ⟨fun b hb => upd_ne (nP b hb), fun b o n q => by rw [upd_ne (fun z => n xs (by rw [z, e4] at q; exact (Option.some.inj q).symm))]; exact q⟩ L.wk, L.wst, fun j fs q => ?_, fun j k fs gs q1 q2 e => ?_, fun j y hjn q => ?_⟩, hs⟩
  · have n : b ≠ A i := fun z => by
      rw [z, e2] at q
      cases q
    rw [upd_ne n]
    exact L.sm b o m q
  · by_cases hj : i = j
    · subst hj
      rw [Stt.own, List.getElem?_set_self hil] at q
      cases q
      exact ⟨e1, e2, e3, ys, upd_same, hy.mono hs⟩
    · have q' := old j fs hj q
      obtain ⟨a1, a2, a3, zs, a4, a5⟩ := L.own j fs q'
      refine ⟨a1, a2, a3, zs, ?_, a5.mono hs⟩
      rw [upd_ne (fun z => hj (L.inj i j ds fs hi q' z.symm))]
      exact a4
  · by_cases hj : i = j
    · by_cases hk : i = k
      · rw [← hj, ← hk]
      · subst hj
        exact L.inj i k ds gs hi (old k gs hk q2) e
    · by_cases hk : i = k
      · subst hk
        exact L.inj j i fs ds (old j fs hj q1) hi e
      · exact L.inj j k fs gs (old j fs hj q1) (old k gs hk q2) e
  · by_cases hj : i = j
    · subst hj
      rw [Stt.own, List.getElem?_set_self hil] at q
      cases q
    · rw [Stt.own, List.getElem?_set_ne hj] at q
      obtain ⟨v, a1, a2⟩ := L.val j y hjn q
      exact ⟨v, a1, a2.mono hs⟩
/-! ### methods of an own list -/
/-- the receiver is a name, the def's own list; what the method's rule asks of the list and the heap -/
theorem own_tyV {A : Nat → Addr} {σ : L2.St} {H : Hp} {i : Nat} {ds : List PyData} (L : Sl c A S σ H) (hi : S.G[i]? = some (some (En.own ds))) : tyV c.K "list" (.ref (A i)) H := by
  obtain ⟨e1, e2, e3, xs, e4, e5⟩ := L.own i ds hi
  exact .inl ⟨rfl, _, .inl (.inl e4)⟩
theorem ev_app {i : Nat} {ds ds1 : List PyData} {d : PyData} (hn : i < c.n) (hi : S.G[i]? = some (some (En.own ds))) (h : EvS c S te (.d d) S1) (hi1 : S1.G[i]? = some (some (En.own ds1))) (hl : ds1.length < 100000) :
    EvS c S (tBM c.K "list" rAppend (tVar i) (tCons te tNil)) (.d .none) (S1.own i (ds1 ++ [d])) := fun A σ H L Q q => by
  obtain ⟨e1, e2, e3, xs, e4, e5⟩ := L.own i ds hi
  refine ⟨_, e1 hn, own_tyV L hi, h A σ H L _ fun v H1 L1 s1 r1 => ?_⟩
  obtain ⟨a1, a2, a3, ys, a4, a5⟩ := L1.own i ds1 hi1
  refine ⟨A i, ys, v, rfl, rfl, a4, ?_, ?_⟩
  · rw [a5.len]
    exact Nat.lt_trans hl (by decide)
  · obtain ⟨L2, s2⟩ := L1.chg hi1 (a5.app (.one r1))
    exact q _ _ L2 (s1.trans s2) Dt.non
theorem ev_pop {i : Nat} {ds : List PyData} {d : PyData} (hn : i < c.n) (hi : S.G[i]? = some (some (En.own (ds ++ [d])))) : EvS c S (tBM0 c.K "list" rPop (tVar i)) (.d d) (S.own i ds) := fun A σ H L Q q => by
  obtain ⟨e1, e2, e3, xs, e4, e5⟩ := L.own i _ hi
  have ln := e5.len
  rw [List.length_append, List.length_singleton] at ln
  obtain ⟨v, v1, v2⟩ := e5.get (i := ds.length) (d := d) (by rw [List.getElem?_append_right (Nat.le_refl _)]; simp)
  refine ⟨_, e1 hn, own_tyV L hi, A i, xs, v, rfl, rfl, e4, by rw [ln, Nat.add_sub_cancel]; exact v1, ?_⟩
  have e6 := e5.dropLast
  rw [List.dropLast_concat] at e6
  obtain ⟨L2, s2⟩ := L.chg hi e6
  exact q _ _ L2 s2 (v2.mono s2)
theorem ev_popAt {i k : Nat} {ds ds1 : List PyData} {d : PyData} (hn : i < c.n) (hi : S.G[i]? = some (some (En.own ds))) (h : EvS c S te (.d (.int (k : Int))) S1) (hi1 : S1.G[i]? = some (some (En.own ds1))) (hk : ds1[k]? = some d) (hz : ds1.length < 100000) :
    EvS c S (tBM c.K "list" rPopAt (tVar i) (tCons te tNil)) (.d d) (S1.own i (ds1.eraseIdx k)) := fun A σ H L Q q => by
  obtain ⟨e1, e2, e3, xs, e4, e5⟩ := L.own i ds hi
  refine ⟨_, e1 hn, own_tyV L hi, h A σ H L _ fun v H1 L1 s1 r1 => ?_⟩
  obtain ⟨a1, a2, a3, ys, a4, a5⟩ := L1.own i ds1 hi1
  obtain ⟨u, u1, u2⟩ := a5.get hk
  have hk2 : k < ds1.length := (List.getElem?_eq_some_iff.mp hk).1
  have ln := a5.len
  have hix : seqIndex? (k : Int) ys.length = some k := by
    have z := (ixN_seq (n := ys.length) (i := (k : Int)) (j := k) (by
      unfold ixN
      rw [if_pos (by omega), if_pos (by omega)]
      simp)).1
    exact z
  refine ⟨A i, ys, (k : Int), k, u, rfl, by rw [Dt.int_inv r1], a4, by omega, ?_, hix, u1, ?_⟩
  · have h3 : (k : Int) < 100000 := by omega
    exact Int.lt_trans h3 (by decide)
  · obtain ⟨L2, s2⟩ := L1.chg hi1 (a5.erase k)
    exact q _ _ L2 (s1.trans s2) (u2.mono s2)
theorem ev_extT {i : Nat} {ds ds1 es : List PyData} (hn : i < c.n) (hi : S.G[i]? = some (some (En.own ds))) (h : EvS c S te (.d (.tuple es)) S1) (hi1 : S1.G[i]? = some (some (En.own ds1))) (hl : ds1.length + es.length < 100000) :
    EvS c S (tBM c.K "list" (rExtT c.K) (tVar i) (tCons te tNil)) (.d .none) (S1.own i (ds1 ++ es)) := fun A σ H L Q q => by
  obtain ⟨e1, e2, e3, xs, e4, e5⟩ := L.own i ds hi
  refine ⟨_, e1 hn, own_tyV L hi, h A σ H L _ fun v H1 L1 s1 r1 => ?_⟩
  obtain ⟨a1, a2, a3, ys, a4, a5⟩ := L1.own i ds1 hi1
  obtain ⟨b, zs, rfl, b1, b2⟩ := Dt.tup_inv r1
  refine ⟨A i, b, ys, zs, rfl, rfl, a4, same_sqT hidP_le b1, ?_, ?_⟩
  · rw [a5.len, b2.len]
    exact Nat.le_of_lt (Nat.lt_trans hl (by decide))
  · obtain ⟨L2, s2⟩ := L1.chg hi1 (a5.app b2)
    exact q _ _ L2 (s1.trans s2) Dt.non
end
end Tk

/-! TkOps -/
set_option Elab.async false
set_option linter.all false
set_option autoImplicit false
set_option maxRecDepth 100000
set_option maxHeartbeats 2000000
namespace Tk
open PySem PySem.Spec PyProof.Rows L2
section
variable {c : Cn} {S S1 S2 S3 : Stt} {ta tb te tl : TE} {x y z : Dx} {t u : TT} {a b : Bool} {d e : PyData}
/-! ### operators on values -/
theorem rv_eq (sd : SeqAt.shaped d = true) (se : SeqAt.shaped e = true) : RvS c S (rEqD c.K) (.d d) (.d e) (.d (.bool (PyData.eqv d e))) := fun A σ H L v w rv rw' Q q =>
  ⟨d, e, (Dt.mono hidP_le rv).dp (SeqAt.canLay_of_shaped sd), (Dt.mono hidP_le rw').dp (SeqAt.canLay_of_shaped se), sd, se, q _ H (Same.refl _) (Dt.bl _)⟩
theorem rv_ne (sd : SeqAt.shaped d = true) (se : SeqAt.shaped e = true) : RvS c S (rNeD c.K) (.d d) (.d e) (.d (.bool (!PyData.eqv d e))) := fun A σ H L v w rv rw' Q q =>
  ⟨d, e, (Dt.mono hidP_le rv).dp (SeqAt.canLay_of_shaped sd), (Dt.mono hidP_le rw').dp (SeqAt.canLay_of_shaped se), sd, se, q _ H (Same.refl _) (Dt.bl _)⟩
/-- of flat values -/
theorem rv_eqF {v w : V} (h : scal v w = true) : RvS c S rEq (.raw v) (.raw w) (.d (.bool (decide (v = w)))) := fun A σ H L v' w' rv rw' Q q => by
  cases rv
  cases rw'
  exact ⟨h, q _ H (Same.refl _) (Dt.bl _)⟩
theorem rv_int {g : Int → Int → Int} {i j : Int} : RvS c S (rI0 fun i j => .int (g i j)) (.d (.int i)) (.d (.int j)) (.d (.int (g i j))) := fun A σ H L v w rv rw' Q q =>
  ⟨i, j, Dt.int_inv rv, Dt.int_inv rw', q _ H (Same.refl _) (Dt.int _)⟩
theorem rv_intC {C : Int → Int → Prop} {g : Int → Int → Int} {i j : Int} (h : C i j) : RvS c S (rI C fun i j => .int (g i j)) (.d (.int i)) (.d (.int j)) (.d (.int (g i j))) := fun A σ H L v w rv rw' Q q =>
  ⟨i, j, Dt.int_inv rv, Dt.int_inv rw', h, q _ H (Same.refl _) (Dt.int _)⟩
theorem rv_cmp {g : Int → Int → Bool} {i j : Int} : RvS c S (rI0 fun i j => .bl (g i j)) (.d (.int i)) (.d (.int j)) (.d (.bool (g i j))) := fun A σ H L v w rv rw' Q q =>
  ⟨i, j, Dt.int_inv rv, Dt.int_inv rw', q _ H (Same.refl _) (Dt.bl _)⟩
def rAddStr : R2 := fun x y H Q => ∃ i j, x = .str i ∧ y = .str j ∧ i.length + j.length ≤ sizeLine ∧ Q (.str (i ++ j)) H
theorem op_addStr {X : Cx} : OpR X (binaryOp .Add) rAddStr := op_add_str
theorem rv_addS {i j : Str} (h : i.length + j.length ≤ sizeLine) : RvS c S rAddStr (.d (.str i)) (.d (.str j)) (.d (.str (i ++ j))) := fun A σ H L v w rv rw' Q q =>
  ⟨i, j, Dt.str_inv rv, Dt.str_inv rw', h, q _ H (Same.refl _) (Dt.str _)⟩
theorem rv_mulS {i : Str} {j : Int} (h : MulOk i j) : RvS c S rMulS (.d (.str i)) (.d (.int j)) (.d (.str (Txt.mul i j))) := fun A σ H L v w rv rw' Q q =>
  ⟨i, j, Dt.str_inv rv, Dt.int_inv rw', h, q _ H (Same.refl _) (Dt.str _)⟩
/-- items -/
theorem rv_ixT {ds : List PyData} {i : Int} {k : Nat} (hi : ixN ds.length i = some k) (hd : ds[k]? = some d) : RvS c S (rIx c.K) (.d (.tuple ds)) (.d (.int i)) (.d d) := fun A σ H L v w rv rw' Q q => by
  obtain ⟨p, xs, rfl, h1, h2⟩ := Dt.tup_inv rv
  obtain ⟨u, u1, u2⟩ := h2.get hd
  refine .inr (.inl ⟨p, xs, i, u, rfl, Dt.int_inv rw', same_sqT hidP_le h1, ?_, q _ H (Same.refl _) u2⟩)
  unfold atI
  rw [h2.len, hi]
  exact u1
theorem rv_ixL {ds : List PyData} {i : Int} {k : Nat} (hi : ixN ds.length i = some k) (hd : ds[k]? = some d) : RvS c S (rIx c.K) (.d (.list ds)) (.d (.int i)) (.d d) := fun A σ H L v w rv rw' Q q => by
  obtain ⟨p, xs, rfl, h1, h2⟩ := Dt.lst_inv rv
  obtain ⟨u, u1, u2⟩ := h2.get hd
  refine .inl ⟨p, xs, i, u, rfl, Dt.int_inv rw', .inl (.inl (hidP_le _ _ h1)), ?_, q _ H (Same.refl _) u2⟩
  unfold atI
  rw [h2.len, hi]
  exact u1
theorem rv_ixS {w : Str} {i : Int} {k : Nat} (hl : w.length ≤ sizeLine) (h : atI w.cps.toList i = some k) : RvS c S (rIx c.K) (.d (.str w)) (.d (.int i)) (.d (.str ⟨#[k]⟩)) := fun A σ H L v w' rv rw' Q q =>
  .inr (.inr ⟨w, i, k, Dt.str_inv rv, Dt.int_inv rw', hl, h, q _ H (Same.refl _) (Dt.str _)⟩)
theorem ixN_nat {n j : Nat} (hj : j < n) : ixN n (j : Int) = some j := by
  unfold ixN
  rw [if_pos (by omega), if_pos (by omega)]
  simp
theorem rv_it {ds : List PyData} {i : Int} (k : Nat) (hd : ds[k]? = some d) (hi : i = (k : Int) := by rfl) : RvS c S (rIx c.K) (.d (.tuple ds)) (.d (.int i)) (.d d) := by
  subst hi
  exact rv_ixT (ixN_nat (List.getElem?_eq_some_iff.mp hd).1) hd
theorem rv_il {ds : List PyData} {i : Int} (k : Nat) (hd : ds[k]? = some d) (hi : i = (k : Int) := by rfl) : RvS c S (rIx c.K) (.d (.list ds)) (.d (.int i)) (.d d) := by
  subst hi
  exact rv_ixL (ixN_nat (List.getElem?_eq_some_iff.mp hd).1) hd
/-- a text in a list or tuple of texts -/
theorem inV_strs (s : Str) (l : List Str) : inV (.str s) (l.map V.str) = decide (s ∈ l) := by
  unfold inV
  induction l with
  | nil => rfl
  | cons x r ih =>
    rw [List.map_cons, List.any_cons, ih]
    show ((x == s) || decide (s ∈ r)) = _
    by_cases h : s = x
    · subst h
      simp
    · have h' : (x == s) = false := by
        rw [beq_eq_false_iff_ne]
        exact fun z => h z.symm
      rw [h', Bool.false_or]
      simp [h]
theorem flat_strs (l : List Str) : (l.map V.str).all flatV = true := by
  induction l with
  | nil => rfl
  | cons x r ih =>
    rw [List.map_cons, List.all_cons, ih]
    rfl
theorem rv_inT {neg : Bool} {s : Str} {l : List Str} : RvS c S (rIn c.K neg) (.d (.str s)) (.d (.tuple (l.map .str))) (.d (.bool (if neg then !decide (s ∈ l) else decide (s ∈ l)))) := fun A σ H L v w rv rw' Q q => by
  obtain ⟨p, xs, rfl, h1, h2⟩ := Dt.tup_inv rw'
  obtain rfl := h2.strs_inv
  obtain rfl := Dt.str_inv rv
  refine ⟨p, _, rfl, .inr (same_sqT hidP_le h1), rfl, flat_strs l, ?_⟩
  rw [inV_strs]
  exact q _ H (Same.refl _) (Dt.bl _)
theorem rv_inL {neg : Bool} {s : Str} {l : List Str} : RvS c S (rIn c.K neg) (.d (.str s)) (.d (.list (l.map .str))) (.d (.bool (if neg then !decide (s ∈ l) else decide (s ∈ l)))) := fun A σ H L v w rv rw' Q q => by
  obtain ⟨p, xs, rfl, h1, h2⟩ := Dt.lst_inv rw'
  obtain rfl := h2.strs_inv
  obtain rfl := Dt.str_inv rv
  refine ⟨p, _, rfl, .inl (.inl (.inl (hidP_le _ _ h1))), rfl, flat_strs l, ?_⟩
  rw [inV_strs]
  exact q _ H (Same.refl _) (Dt.bl _)
/-- one sign in a text -/
def rSign (neg : Bool) : R2 := fun x y H Q => ∃ (k : Nat) (w : Str), x = .str ⟨#[k]⟩ ∧ y = .str w ∧ Q (.bl (if neg then !decide (k ∈ w.cps.toList) else decide (k ∈ w.cps.toList))) H
theorem op_sign {X : Cx} : OpR X (compareOp .In) (rSign false) := op_in_sign
theorem op_notSign {X : Cx} : OpR X (compareOp .NotIn) (rSign true) := op_notIn_sign
theorem rv_sign {neg : Bool} {k : Nat} {w : Str} : RvS c S (rSign neg) (.d (.str ⟨#[k]⟩)) (.d (.str w)) (.d (.bool (if neg then !decide (k ∈ w.cps.toList) else decide (k ∈ w.cps.toList)))) := fun A σ H L v u rv ru Q q =>
  ⟨k, w, Dt.str_inv rv, Dt.str_inv ru, q _ H (Same.refl _) (Dt.bl _)⟩
/-- + of lists -/
theorem rv_cat {ds es : List PyData} (hl : ds.length + es.length ≤ 100000) : RvS c S rCat (.d (.list ds)) (.d (.list es)) (.d (.list (ds ++ es))) := fun A σ H L v w rv rw' Q q => by
  obtain ⟨p, xs, rfl, h1, h2⟩ := Dt.lst_inv rv
  obtain ⟨p2, ys, rfl, h3, h4⟩ := Dt.lst_inv rw'
  refine ⟨p, p2, xs, ys, rfl, rfl, hidP_le _ _ h1, hidP_le _ _ h3, ?_, fun n hn => ?_⟩
  · rw [h2.len, h4.len]
    exact Nat.le_trans hl (by decide)
  · obtain ⟨_, s2⟩ := L.grow (same_new (o := .lst (xs ++ ys)) hn)
    refine q _ _ (same_new hn) (Dt.lst ?_ ((h2.app h4).mono s2))
    show hidP _ _ n = _
    rw [hidP_neg (L.new hn), upd_same]
/-- is None, is not None -/
theorem ev_isN (h : EvS c S te (.d d) S1) : EvS c S (tIsN te) (.d (.bool (match d with | .none => true | _ => false))) S1 := fun A σ H L Q q => h A σ H L _ fun v H1 L1 e1 r1 => by
  have r1' : Dt c.K (hid c A S1 H1) v d := r1
  cases r1' with
  | non => exact q _ H1 L1 e1 (Dt.bl _)
  | bl b => exact q _ H1 L1 e1 (Dt.bl _)
  | int b => exact q _ H1 L1 e1 (Dt.bl _)
  | str b => exact q _ H1 L1 e1 (Dt.bl _)
  | lst _ _ => exact q _ H1 L1 e1 (Dt.bl _)
  | exc _ => exact q _ H1 L1 e1 (Dt.bl _)
  | tup _ _ => exact q _ H1 L1 e1 (Dt.bl _)
theorem ev_notN (h : EvS c S te (.d d) S1) : EvS c S (tNotN te) (.d (.bool (match d with | .none => false | _ => true))) S1 := fun A σ H L Q q => h A σ H L _ fun v H1 L1 e1 r1 => by
  have r1' : Dt c.K (hid c A S1 H1) v d := r1
  cases r1' with
  | non => exact q _ H1 L1 e1 (Dt.bl _)
  | bl b => exact q _ H1 L1 e1 (Dt.bl _)
  | int b => exact q _ H1 L1 e1 (Dt.bl _)
  | str b => exact q _ H1 L1 e1 (Dt.bl _)
  | lst _ _ => exact q _ H1 L1 e1 (Dt.bl _)
  | exc _ => exact q _ H1 L1 e1 (Dt.bl _)
  | tup _ _ => exact q _ H1 L1 e1 (Dt.bl _)
/-! ### slices -/
def EvP (c : Cn) (S : Stt) (to : TO) (o : Option Int) (S' : Stt) : Prop := ∀ A σ H, Sl c A S σ H → ∀ Q : Option Int → Hp → Prop, (∀ H', Sl c A S' σ H' → Same (hid c A S H) (hid c A S' H') → Q o H') → to σ H Q
theorem ep_none : EvP c S tNoPart none S := fun A σ H L Q q => q H L (Same.refl _)
theorem ep_some {i : Int} (h : EvS c S te (.d (.int i)) S1) : EvP c S (tPart te) (some i) S1 := fun A σ H L Q q => h A σ H L _ fun v H1 L1 e1 r1 => ⟨i, Dt.int_inv r1, q H1 L1 e1⟩
theorem ev_slS {tlo thi : TO} {w : Str} {lo hi : Option Int} (h : EvS c S te (.d (.str w)) S1) (h1 : EvP c S1 tlo lo S2) (h2 : EvP c S2 thi hi S3) (hl : w.length ≤ sizeLine) : EvS c S (tSl rSlS te tlo thi) (.d (.str (cutS w lo hi))) S3 := fun A σ H L Q q =>
  h A σ H L _ fun v H1 L1 e1 r1 => h1 A σ H1 L1 _ fun H2 L2 e2 => h2 A σ H2 L2 _ fun H3 L3 e3 => ⟨w, Dt.str_inv r1, hl, q _ H3 L3 ((e1.trans e2).trans e3) (Dt.str _)⟩
/-- of tuples, any -/
def cutD (xs : List PyData) (lo hi : Option Int) : List PyData := (xs.drop (HT.sIx xs.length 0 lo)).take (HT.sIx xs.length xs.length hi - HT.sIx xs.length 0 lo)
theorem DtA.cut {K : PySem.W.Frag} {H : Hp} {vs : List V} {ds : List PyData} (h : DtA K H vs ds) (lo hi : Option Int) : DtA K H (cutV vs lo hi) (cutD ds lo hi) := by
  unfold cutV cutD
  rw [h.len]
  exact (h.drop _).take _
theorem cutD_all {ds : List PyData} {lo hi : Option Int} (h : HT.sIx ds.length 0 lo = 0 ∧ HT.sIx ds.length ds.length hi = ds.length) : cutD ds lo hi = ds := by
  unfold cutD
  rw [h.1, h.2]
  simp
theorem ev_slT {tlo thi : TO} {ds : List PyData} {lo hi : Option Int} (h : EvS c S te (.d (.tuple ds)) S1) (h1 : EvP c S1 tlo lo S2) (h2 : EvP c S2 thi hi S3) : EvS c S (tSl (rSlA c.K) te tlo thi) (.d (.tuple (cutD ds lo hi))) S3 := fun A σ H L Q q =>
  h A σ H L _ fun v H1 L1 e1 r1 => h1 A σ H1 L1 _ fun H2 L2 e2 => h2 A σ H2 L2 _ fun H3 L3 e3 => by
    have r3 := Dt.mono (e2.trans e3) r1
    obtain ⟨a, vs, rfl, hs, hd⟩ := Dt.tup_inv r3
    refine ⟨a, vs, rfl, same_sqT hidP_le hs, fun hw => ?_, fun hw p hp => ?_⟩
    · rw [hd.len] at hw
      rw [cutD_all hw] at q
      exact q _ H3 L3 ((e1.trans e2).trans e3) r3
    · obtain ⟨L4, e4⟩ := L3.grow (same_new (o := .tup (cutV vs lo hi)) hp)
      refine q _ _ L4 (((e1.trans e2).trans e3).trans e4) (Dt.tup (.inl (.inl ?_)) ((hd.cut lo hi).mono e4))
      show hidP _ _ p = _
      rw [hidP_neg (L3.new hp), upd_same]
theorem sIx_some (n d i : Nat) : HT.sIx n d (some (i : Int)) = min i n := HT.sIx_nat n d i
/-- t[k:] -/
theorem cutD_from (ds : List PyData) (k : Nat) : cutD ds (some (k : Int)) none = ds.drop k := by
  unfold cutD
  rw [sIx_some, HT.sIx_none]
  by_cases h : k ≤ ds.length
  · rw [Nat.min_eq_left h]
    exact List.take_of_length_le (by rw [List.length_drop]; exact Nat.le_refl _)
  · rw [Nat.min_eq_right (by omega), List.drop_eq_nil_of_le (Nat.le_refl _), List.drop_eq_nil_of_le (by omega)]
    exact List.take_nil
/-- equality of texts, ints .. -/
theorem rv_eqS {s r : Str} : RvS c S rEq (.d (.str s)) (.d (.str r)) (.d (.bool (decide (s = r)))) := fun A σ H L v w rv rw' Q q => by
  obtain rfl := Dt.str_inv rv
  obtain rfl := Dt.str_inv rw'
  refine ⟨rfl, ?_⟩
  have e : decide (V.str s = V.str r) = decide (s = r) := by
    by_cases h : s = r
    · subst h
      simp
    · rw [decide_eq_false h, decide_eq_false fun z => h (V.str.inj z)]
  rw [e]
  exact q _ H (Same.refl _) (Dt.bl _)
theorem rv_neS {s r : Str} : RvS c S rNe (.d (.str s)) (.d (.str r)) (.d (.bool (!decide (s = r)))) := fun A σ H L v w rv rw' Q q => by
  obtain rfl := Dt.str_inv rv
  obtain rfl := Dt.str_inv rw'
  refine ⟨rfl, ?_⟩
  have e : decide (V.str s = V.str r) = decide (s = r) := by
    by_cases h : s = r
    · subst h
      simp
    · rw [decide_eq_false h, decide_eq_false fun z => h (V.str.inj z)]
  rw [e]
  exact q _ H (Same.refl _) (Dt.bl _)
theorem rv_eqI {s r : Int} : RvS c S rEq (.d (.int s)) (.d (.int r)) (.d (.bool (decide (s = r)))) := fun A σ H L v w rv rw' Q q => by
  obtain rfl := Dt.int_inv rv
  obtain rfl := Dt.int_inv rw'
  refine ⟨rfl, ?_⟩
  have e : decide (V.int s = V.int r) = decide (s = r) := by
    by_cases h : s = r
    · subst h
      simp
    · rw [decide_eq_false h, decide_eq_false fun z => h (V.int.inj z)]
  rw [e]
  exact q _ H (Same.refl _) (Dt.bl _)
theorem rv_neI {s r : Int} : RvS c S rNe (.d (.int s)) (.d (.int r)) (.d (.bool (!decide (s = r)))) := fun A σ H L v w rv rw' Q q => by
  obtain rfl := Dt.int_inv rv
  obtain rfl := Dt.int_inv rw'
  refine ⟨rfl, ?_⟩
  have e : decide (V.int s = V.int r) = decide (s = r) := by
    by_cases h : s = r
    · subst h
      simp
    · rw [decide_eq_false h, decide_eq_false fun z => h (V.int.inj z)]
  rw [e]
  exact q _ H (Same.refl _) (Dt.bl _)
/-- a value told otherwise -/
theorem ev_is {v w : Dx} (h : EvS c S te v S1) (e : v = w) : EvS c S te w S1 := e ▸ h
theorem eb_is {a b : Bool} (h : EvB c S t a S1) (e : a = b) : EvB c S t b S1 := e ▸ h
end
end Tk

/-! TkLoop -/
set_option Elab.async false
set_option linter.all false
set_option autoImplicit false
set_option maxRecDepth 100000
set_option maxHeartbeats 2000000
namespace Tk
open PySem PySem.Spec PyProof.Rows L2
/-! ### what is walked -/
def Walks (K : PySem.W.Frag) (C : Addr) (B : Hp) (J : It) (xs : List Dx) : Prop := ∀ H', Same B H' →
  (∀ (i : Nat) (x : Dx), xs[i]? = some x → J.go i H' ∧ ∀ v H'', J.yld i H' v H'' → Same H' H'' ∧ ∀ P : Addr → Prop, (∀ b, P b → H' b ≠ none) → Same B (hidP P H') → Rx K C (hidP P H'') v x) ∧ ∀ i : Nat, xs.length ≤ i → J.stop i H'
def EvI (c : Cn) (S : Stt) (wi : TI) (xs : List Dx) (S' : Stt) : Prop := ∀ A σ H, Sl c A S σ H → ∀ R : It → Hp → Prop, (∀ J H1, Sl c A S' σ H1 → Same (hid c A S H) (hid c A S' H1) → Walks c.K c.C (hid c A S' H1) J xs → R J H1) → wi σ H R
section
variable {c : Cn} {S S1 S2 S3 : Stt} {ta tb te tl : TE} {x y z : Dx} {t u : TT} {ts : TS} {o : Out}
theorem walks_list {K : PySem.W.Frag} {C : Addr} {B : Hp} {a : Addr} {vs : List V} {ds : List PyData} (h : B a = some (.lst vs)) (hd : DtA K B vs ds) : Walks K C B (Itl K a) (ds.map Dx.d) := fun H' e => by
  have hs : SqL K H' a vs := .inl (.inl (e _ _ h))
  refine ⟨fun i x hx => ?_, fun i hi => ⟨vs, hs, by rw [hd.len]; rw [List.length_map] at hi; exact hi⟩⟩
  rw [List.getElem?_map] at hx
  cases q : ds[i]? with
  | none =>
    rw [q] at hx
    cases hx
  | some d =>
    rw [q] at hx
    cases hx
    obtain ⟨v, v1, v2⟩ := hd.get q
    refine ⟨⟨vs, v, hs, v1⟩, fun w H'' hy => ?_⟩
    obtain ⟨rfl, f⟩ := hy
    refine ⟨Same.refl _, fun P _ hB => ?_⟩
    have := (f vs hs).symm.trans v1
    cases this
    exact Dt.mono hB v2
theorem walks_tup {K : PySem.W.Frag} {C : Addr} {B : Hp} {a : Addr} {vs : List V} {ds : List PyData} (h : SqT K B a vs) (hd : DtA K B vs ds) : Walks K C B (Itt K a) (ds.map Dx.d) := fun H' e => by
  have hs : SqT K H' a vs := same_sqT e h
  refine ⟨fun i x hx => ?_, fun i hi => ⟨vs, hs, by rw [hd.len]; rw [List.length_map] at hi; exact hi⟩⟩
  rw [List.getElem?_map] at hx
  cases q : ds[i]? with
  | none =>
    rw [q] at hx
    cases hx
  | some d =>
    rw [q] at hx
    cases hx
    obtain ⟨v, v1, v2⟩ := hd.get q
    refine ⟨⟨vs, v, hs, v1⟩, fun w H'' hy => ?_⟩
    obtain ⟨rfl, f⟩ := hy
    refine ⟨Same.refl _, fun P _ hB => ?_⟩
    have := (f vs hs).symm.trans v1
    cases this
    exact Dt.mono hB v2
theorem ei_list {ds : List PyData} (h : EvS c S te (.d (.list ds)) S1) : EvI c S (iList c.K te) (ds.map Dx.d) S1 := fun A σ H L R q => h A σ H L _ fun v H1 L1 e1 r1 => by
  obtain ⟨a, vs, rfl, h1, h2⟩ := Dt.lst_inv r1
  exact ⟨a, rfl, ⟨vs, .inl (.inl (hidP_le _ _ h1))⟩, q _ H1 L1 e1 (walks_list h1 h2)⟩
theorem ei_tup {ds : List PyData} (h : EvS c S te (.d (.tuple ds)) S1) : EvI c S (iTup c.K te) (ds.map Dx.d) S1 := fun A σ H L R q => h A σ H L _ fun v H1 L1 e1 r1 => by
  obtain ⟨a, vs, rfl, h1, h2⟩ := Dt.tup_inv r1
  exact ⟨a, rfl, ⟨vs, same_sqT hidP_le h1⟩, q _ H1 L1 e1 (walks_tup h1 h2)⟩
/-- the signs of a text -/
def signs (s : Str) : List PyData := s.cps.toList.map fun k => PyData.str ⟨#[k]⟩
theorem ei_str {s : Str} (h : EvS c S te (.d (.str s)) S1) : EvI c S (iStr te) ((signs s).map Dx.d) S1 := fun A σ H L R q => h A σ H L _ fun v H1 L1 e1 r1 => by
  refine ⟨s, Dt.str_inv r1, q _ H1 L1 e1 fun H' e => ⟨fun i x hx => ?_, fun i hi => ?_⟩⟩
  · unfold signs at hx
    rw [List.map_map, List.getElem?_map] at hx
    cases k : s.cps.toList[i]? with
    | none =>
      rw [k] at hx
      cases hx
    | some w =>
      rw [k] at hx
      cases hx
      have k' : s.cps[i]? = some w := by rw [← Array.getElem?_toList]; exact k
      refine ⟨(Array.getElem?_eq_some_iff.mp k').1, fun v' H'' hy => ?_⟩
      obtain ⟨rfl, c', hc', rfl⟩ := hy
      rw [k'] at hc'
      cases hc'
      exact ⟨Same.refl _, fun P _ _ => Dt.str _⟩
  · unfold signs at hi
    rw [List.length_map, List.length_map, Array.length_toList] at hi
    exact hi
theorem ei_range {n : Int} {ta : TA} (h : EvA c S ta [.d (.int n)] S1) (h0 : 0 ≤ n) (h1 : n ≤ 100000) : EvI c S (iRng1 ta) ((List.range n.toNat).map fun (k : Nat) => Dx.d (.int (k : Int))) S1 := fun A σ H L R q => h A σ H L _ fun vs H1 L1 e1 r1 => by
  cases r1 with
  | cons r rr =>
    cases rr
    refine ⟨n, by rw [Dt.int_inv r], by omega, by omega, q _ H1 L1 e1 fun H' e => ⟨fun i x hx => ?_, fun i hi => ?_⟩⟩
    · rw [List.getElem?_map] at hx
      by_cases hi : i < n.toNat
      · rw [List.getElem?_range hi] at hx
        cases hx
        refine ⟨hi, fun v H'' hy => ?_⟩
        obtain ⟨rfl, rfl⟩ := hy
        refine ⟨Same.refl _, fun P _ _ => ?_⟩
        rw [Int.zero_add]
        exact Dt.int _
      · rw [List.getElem?_eq_none (by rw [List.length_range]; omega)] at hx
        cases hx
    · rw [List.length_map, List.length_range] at hi
      exact hi
/-- a target's assignment -/
def AsgS (c : Cn) (S : Stt) (g : TG) (x : Dx) (S' : Stt) : Prop := ∀ A σ H, Sl c A S σ H → ∀ v, Rx c.K c.C (hid c A S H) v x → ∀ Q : L2.St → Hp → Prop, (∀ A' σ' H', Sl c A' S' σ' H' → Same (hid c A S H) (hid c A' S' H') → Q σ' H') → g v σ H Q
theorem asg_name {i : Nat} : AsgS c S (gName i) x (S.put i x) := fun A σ H L v r Q q => q A _ H (L.put r).1 (L.put r).2
theorem asg_pair {i j : Nat} {d e : PyData} : AsgS c S (gTup c.K 2 (gCons (gName i) (gCons (gName j) gNil))) (.d (.tuple [d, e])) ((S.put i (.d d)).put j (.d e)) := fun A σ H L v r Q q => by
  obtain ⟨a, xs, rfl, h1, h2⟩ := Dt.tup_inv r
  cases h2 with
  | cons r1 h2 =>
    cases h2 with
    | cons r2 h2 =>
      cases h2
      obtain ⟨L1, s1⟩ := L.put (i := i) (x := .d d) r1
      obtain ⟨L2, s2⟩ := L1.put (i := j) (x := .d e) (Dt.mono s1 r2)
      exact ⟨a, _, rfl, same_sqT hidP_le h1, rfl, _, _, rfl, _, _, rfl, rfl, q A _ H L2 (s1.trans s2)⟩
/-! ### for -/
inductive LpF (c : Cn) (g : TG) (tb : TS) : Stt → List Dx → Out → Prop
  | nil {S : Stt} : LpF c g tb S [] (.nx S)
  | step {S S1 S2 : Stt} {x : Dx} {xs : List Dx} {o : Out} : AsgS c S g x S1 → RunS c S1 tb (.nx S2) → LpF c g tb S2 xs o → LpF c g tb S (x :: xs) o
  | cont {S S1 S2 : Stt} {x : Dx} {xs : List Dx} {o : Out} : AsgS c S g x S1 → RunS c S1 tb (.ct S2) → LpF c g tb S2 xs o → LpF c g tb S (x :: xs) o
  | ret {S S1 : Stt} {x z : Dx} {xs : List Dx} {W : Hp → Prop} : AsgS c S g x S1 → RunS c S1 tb (.rt z W) → LpF c g tb S (x :: xs) (.rt z W)
  | brk {S S1 S2 : Stt} {x : Dx} {xs : List Dx} : AsgS c S g x S1 → RunS c S1 tb (.bk S2) → LpF c g tb S (x :: xs) (.nx S2)
theorem run_for {g : TG} {wi : TI} {xs : List Dx} (hi : EvI c S wi xs S1) (hl : LpF c g ts S1 xs o) : RunS c S (tFor wi g ts) o := fun A σ H L D w => hi A σ H L _ fun J H1 L1 e1 hw => by
  have w1 := w.up e1
  refine ⟨fun i m σ' H' => m + i = xs.length ∧ i ≤ xs.length ∧ ∃ A' S', Sl c A' S' σ' H' ∧ Same (hid c A S1 H1) (hid c A' S' H') ∧ LpF c g ts S' (xs.drop i) o, ⟨xs.length, by omega, Nat.zero_le _, A, S1, L1, Same.refl _, hl⟩, ?_⟩
  rintro i m σ' H' ⟨em, hi, A', S', L', s', hl'⟩
  obtain ⟨h1, h2⟩ := hw H' (s'.trans hidP_le)
  by_cases hlt : i < xs.length
  · obtain ⟨x, hx⟩ : ∃ x, xs[i]? = some x := ⟨_, List.getElem?_eq_getElem hlt⟩
    have hd : xs.drop i = x :: xs.drop (i + 1) := by
      rw [List.drop_eq_getElem_cons hlt]
      rw [List.getElem?_eq_getElem hlt] at hx
      cases hx
      rfl
    rw [hd] at hl'
    obtain ⟨hg, hy⟩ := h1 i x hx
    refine .inr ⟨hg, fun σ2 H2 => ∃ A2 S2, Sl c A2 S2 σ2 H2 ∧ Same (hid c A S1 H1) (hid c A2 S2 H2) ∧ LpF c g ts S2 (xs.drop (i + 1)) o, fun σ2 H2 hn => ⟨m - 1, by omega, by omega, by omega, hn⟩, fun v H2 hv => ?_⟩
    obtain ⟨sm, hr⟩ := hy v H2 hv
    obtain ⟨L2, s2⟩ := L'.grow sm
    have rv := hr (fun b => c.P b ∨ S'.owns A' b) (fun b hb => L'.hidAlive hb) s'
    cases hl' with
    | step ha hb hc => exact ha A' σ' H2 L2 v rv _ fun A3 σ3 H3 L3 s3 => hb A3 σ3 H3 L3 _ fun A4 σ4 H4 L4 s4 => ⟨A4, _, L4, ((s'.trans s2).trans s3).trans s4, hc⟩
    | cont ha hb hc => exact ha A' σ' H2 L2 v rv _ fun A3 σ3 H3 L3 s3 => hb A3 σ3 H3 L3 _ fun A4 σ4 H4 L4 s4 => ⟨A4, _, L4, ((s'.trans s2).trans s3).trans s4, hc⟩
    | ret ha hb => exact ha A' σ' H2 L2 v rv _ fun A3 σ3 H3 L3 s3 => hb A3 σ3 H3 L3 _ w1
    | brk ha hb => exact ha A' σ' H2 L2 v rv _ fun A3 σ3 H3 L3 s3 => hb A3 σ3 H3 L3 _ fun A4 σ4 H4 L4 s4 => w1 A4 σ4 H4 L4 (((s'.trans s2).trans s3).trans s4)
  · have hd : xs.drop i = [] := List.drop_eq_nil_of_le (by omega)
    rw [hd] at hl'
    cases hl'
    exact .inl ⟨h2 i (by omega), w1 A' σ' H' L' s'⟩
/-! ### while -/
inductive LpW (c : Cn) (tc : TT) (tb : TS) : Nat → Stt → Out → Prop
  | done {n : Nat} {S S1 : Stt} : EvB c S tc false S1 → LpW c tc tb n S (.nx S1)
  | step {n : Nat} {S S1 S2 : Stt} {o : Out} : EvB c S tc true S1 → RunS c S1 tb (.nx S2) → LpW c tc tb n S2 o → LpW c tc tb (n + 1) S o
  | cont {n : Nat} {S S1 S2 : Stt} {o : Out} : EvB c S tc true S1 → RunS c S1 tb (.ct S2) → LpW c tc tb n S2 o → LpW c tc tb (n + 1) S o
  | ret {n : Nat} {S S1 : Stt} {z : Dx} {W : Hp → Prop} : EvB c S tc true S1 → RunS c S1 tb (.rt z W) → LpW c tc tb n S (.rt z W)
  | brk {n : Nat} {S S1 S2 : Stt} : EvB c S tc true S1 → RunS c S1 tb (.bk S2) → LpW c tc tb n S (.nx S2)
theorem run_while {tc : TT} {n : Nat} (hl : LpW c tc ts n S o) : RunS c S (tWhile tc ts) o := fun A σ H L D w => by
  refine ⟨fun m σ' H' => ∃ A' S', Sl c A' S' σ' H' ∧ Same (hid c A S H) (hid c A' S' H') ∧ LpW c tc ts m S' o, ⟨n, A, S, L, Same.refl _, hl⟩, ?_⟩
  rintro m σ' H' ⟨A', S', L', s', hl'⟩
  cases hl' with
  | done h1 =>
    refine h1 A' σ' H' L' _ fun H1 L1 e1 => ?_
    rw [if_neg Bool.false_ne_true]
    exact w A' σ' H1 L1 (s'.trans e1)
  | step h1 h2 h3 =>
    refine h1 A' σ' H' L' _ fun H1 L1 e1 => ?_
    rw [if_pos rfl]
    exact ⟨fun σ2 H2 => ∃ A2 S2, Sl c A2 S2 σ2 H2 ∧ Same (hid c A S H) (hid c A2 S2 H2) ∧ LpW c tc ts _ S2 o, fun σ2 H2 hn => ⟨_, Nat.lt_succ_self _, hn⟩, h2 A' σ' H1 L1 _ fun A2 σ2 H2 L2 s2 => ⟨A2, _, L2, (s'.trans e1).trans s2, h3⟩⟩
  | cont h1 h2 h3 =>
    refine h1 A' σ' H' L' _ fun H1 L1 e1 => ?_
    rw [if_pos rfl]
    exact ⟨fun σ2 H2 => ∃ A2 S2, Sl c A2 S2 σ2 H2 ∧ Same (hid c A S H) (hid c A2 S2 H2) ∧ LpW c tc ts _ S2 o, fun σ2 H2 hn => ⟨_, Nat.lt_succ_self _, hn⟩, h2 A' σ' H1 L1 _ fun A2 σ2 H2 L2 s2 => ⟨A2, _, L2, (s'.trans e1).trans s2, h3⟩⟩
  | ret h1 h2 =>
    refine h1 A' σ' H' L' _ fun H1 L1 e1 => ?_
    rw [if_pos rfl]
    exact ⟨fun _ _ => False, fun _ _ hn => hn.elim, h2 A' σ' H1 L1 _ w⟩
  | brk h1 h2 =>
    refine h1 A' σ' H' L' _ fun H1 L1 e1 => ?_
    rw [if_pos rfl]
    exact ⟨fun _ _ => False, fun _ _ hn => hn.elim, h2 A' σ' H1 L1 _ fun A2 σ2 H2 L2 s2 => w A2 σ2 H2 L2 ((s'.trans e1).trans s2)⟩
end
end Tk

/-! TkComp -/
set_option Elab.async false
set_option linter.all false
set_option autoImplicit false
set_option maxRecDepth 100000
set_option maxHeartbeats 2000000
namespace Tk
open PySem PySem.Spec PyProof.Rows L2
section
variable {c : Cn} {S S1 S2 S3 : Stt} {ta tb te tl : TE} {x y z : Dx} {t u : TT} {ts : TS} {o : Out}
/-! ### the state beside a list that a comprehension fills -/
/-- the state with one more list of its own, behind the slots -/
def Stt.gh (S : Stt) (acc : List PyData) : Stt := ⟨S.W, S.G ++ [some (.own acc)]⟩
def Stt.blank (S : Stt) : Stt := ⟨S.W, S.G ++ [none]⟩
theorem owns_blank {A : Nat → Addr} {b : Addr} : S.blank.owns A b ↔ S.owns A b := by
  constructor
  · rintro ⟨i, ds, e, q⟩
    refine ⟨i, ds, ?_, q⟩
    unfold Stt.blank at e
    by_cases h : i < S.G.length
    · rw [List.getElem?_append_left h] at e
      exact e
    · rw [List.getElem?_append_right (by omega)] at e
      by_cases h2 : i - S.G.length = 0
      · rw [h2] at e
        cases e
      · rw [List.getElem?_eq_none (by simp; omega)] at e
        cases e
  · rintro ⟨i, ds, e, q⟩
    exact ⟨i, ds, by unfold Stt.blank; rw [List.getElem?_append_left (List.getElem?_eq_some_iff.mp e).1]; exact e, q⟩
theorem hid_blank {A : Nat → Addr} {H : Hp} : hid c A S.blank H = hid c A S H := by
  unfold hid
  congr 1
  funext b
  rw [show S.blank.owns A b = S.owns A b from propext owns_blank]
theorem blank_get {i : Nat} {e : En} (h : S.blank.G[i]? = some (some e)) : S.G[i]? = some (some e) := by
  unfold Stt.blank at h
  by_cases hl : i < S.G.length
  · rw [List.getElem?_append_left hl] at h
    exact h
  · rw [List.getElem?_append_right (by omega)] at h
    by_cases h2 : i - S.G.length = 0
    · rw [h2] at h
      cases h
    · rw [List.getElem?_eq_none (by simp; omega)] at h
      cases h
theorem Sl.blank {A : Nat → Addr} {σ : L2.St} {H : Hp} (L : Sl c A S σ H) : Sl c A S.blank σ H := by
  refine ⟨L.len, ?_, L.sm, L.al, L.wk, L.wst, fun i ds e => ?_, fun i j ds es h1 h2 => L.inj i j ds es (blank_get h1) (blank_get h2), fun i x hn e => ?_⟩
  · have h := L.le
    show c.n ≤ (S.G ++ [none]).length
    rw [List.length_append]
    omega
  · obtain ⟨e1, e2, e3, xs, e4, e5⟩ := L.own i ds (blank_get e)
    exact ⟨e1, e2, e3, xs, e4, by rw [hid_blank]; exact e5⟩
  · obtain ⟨v, e1, e2⟩ := L.val i x hn (blank_get e)
    exact ⟨v, e1, by rw [hid_blank]; exact e2⟩
theorem blank_own (acc : List PyData) : S.blank.own S.G.length acc = S.gh acc := by
  unfold Stt.blank Stt.own Stt.gh
  simp
theorem gh_own (acc acc' : List PyData) : (S.gh acc).own S.G.length acc' = S.gh acc' := by
  unfold Stt.gh Stt.own
  simp
/-- the list laid -/
theorem Sl.lay {A : Nat → Addr} {σ : L2.St} {H : Hp} {p : Addr} (L : Sl c A S σ H) (hp : H p = none) : Sl c (setA A S.G.length p) (S.gh []) σ (upd H p (.lst [])) ∧ Same (hid c A S H) (hid c (setA A S.G.length p) (S.gh []) (upd H p (.lst []))) := by
  have h := L.blank.mkOwn (i := S.G.length) (xs := []) (ds := []) (by unfold Stt.blank; simp) .nil hp
  rw [blank_own, hid_blank] at h
  have hl : σ.set S.G.length (some (.ref p)) = σ := List.set_eq_of_length_le (by rw [L.len]; exact L.le)
  rw [hl] at h
  exact h
/-- the list let go: it is seen now -/
theorem Sl.shed {A : Nat → Addr} {σ : L2.St} {H : Hp} {acc : List PyData} (L : Sl c A (S.gh acc) σ H) (hle : c.n ≤ S.G.length) : ∃ xs, H (A S.G.length) = some (.lst xs) ∧ Sl c A S σ H ∧ Same (hid c A (S.gh acc) H) (hid c A S H) ∧ Dt c.K (hid c A S H) (.ref (A S.G.length)) (.list acc) := by
  have up : ∀ {i : Nat} {e : En}, S.G[i]? = some (some e) → (S.gh acc).G[i]? = some (some e) := fun {i e} h => by
    unfold Stt.gh
    rw [List.getElem?_append_left (List.getElem?_eq_some_iff.mp h).1]
    exact h
  have at_ : (S.gh acc).G[S.G.length]? = some (some (En.own acc)) := by
    unfold Stt.gh
    simp
  have ow : ∀ b, S.owns A b → (S.gh acc).owns A b := fun b ⟨i, ds, e, q⟩ => ⟨i, ds, up e, q⟩
  have hs : Same (hid c A (S.gh acc) H) (hid c A S H) := hidP_sub (fun b z => z.imp id (ow b)) fun b o _ q => q
  obtain ⟨_, e2, e3, xs, e4, e5⟩ := L.own _ acc at_
  have nA : ¬ (c.P (A S.G.length) ∨ S.owns A (A S.G.length)) := fun z => by
    rcases z with z | ⟨i, ds, e, q⟩
    · exact e3 z
    · have h := L.inj i _ ds acc (up e) at_ q.symm
      have := (List.getElem?_eq_some_iff.mp e).1
      omega
  refine ⟨xs, e4, ⟨L.len, hle, L.sm, L.al, L.wk, L.wst, fun i ds e => ?_, fun i j ds es h1 h2 => L.inj i j ds es (up h1) (up h2), fun i x hn e => ?_⟩, hs, Dt.lst ?_ (e5.mono hs)⟩
  · obtain ⟨a1, a2, a3, ys, a4, a5⟩ := L.own i ds (up e)
    exact ⟨a1, a2, a3, ys, a4, a5.mono hs⟩
  · obtain ⟨v, a1, a2⟩ := L.val i x hn (up e)
    exact ⟨v, a1, a2.mono hs⟩
  · show hidP _ _ _ = _
    rw [hidP_neg nA]
    exact e4
/-- addresses but those of own lists don't matter -/
theorem Sl.congrA {A A' : Nat → Addr} {σ : L2.St} {H : Hp} (L : Sl c A S σ H) (h : ∀ i, i < S.G.length → A' i = A i) : Sl c A' S σ H ∧ hid c A' S H = hid c A S H := by
  have lt : ∀ {i : Nat} {e : En}, S.G[i]? = some (some e) → i < S.G.length := fun e => (List.getElem?_eq_some_iff.mp e).1
  have ow : S.owns A' = S.owns A := by
    funext b
    refine propext ⟨fun ⟨i, ds, e, q⟩ => ⟨i, ds, e, by rw [← h i (lt e)]; exact q⟩, fun ⟨i, ds, e, q⟩ => ⟨i, ds, e, by rw [h i (lt e)]; exact q⟩⟩
  have hh : hid c A' S H = hid c A S H := by
    unfold hid
    rw [ow]
  refine ⟨⟨L.len, L.le, L.sm, L.al, L.wk, L.wst, fun i ds e => ?_, fun i j ds es h1 h2 q => L.inj i j ds es h1 h2 (by rw [← h i (lt h1), ← h j (lt h2)]; exact q), fun i x hn e => ?_⟩, hh⟩
  · obtain ⟨a1, a2, a3, ys, a4, a5⟩ := L.own i ds e
    rw [h i (lt e), hh]
    exact ⟨a1, a2, a3, ys, a4, a5⟩
  · rw [hh]
    exact L.val i x hn e
/-- a slot forgotten -/
def Stt.wipe (S : Stt) (i : Nat) : Stt := ⟨S.W, S.G.set i none⟩
theorem wipe_get {i j : Nat} {e : En} (h : (S.wipe i).G[j]? = some (some e)) : S.G[j]? = some (some e) ∧ i ≠ j := by
  unfold Stt.wipe at h
  by_cases hj : i = j
  · subst hj
    by_cases hl : i < S.G.length
    · rw [List.getElem?_set_self hl] at h
      cases h
    · rw [List.getElem?_eq_none (by rw [List.length_set]; omega)] at h
      cases h
  · rw [List.getElem?_set_ne hj] at h
    exact ⟨h, hj⟩
theorem Sl.wipe {A : Nat → Addr} {σ : L2.St} {H : Hp} {i : Nat} (L : Sl c A S σ H) : Sl c A (S.wipe i) (σ.set i none) H ∧ Same (hid c A S H) (hid c A (S.wipe i) H) := by
  have hs : Same (hid c A S H) (hid c A (S.wipe i) H) := hidP_sub (fun b z => z.imp id fun ⟨j, ds, e, q⟩ => ⟨j, ds, (wipe_get e).1, q⟩) fun b o _ q => q
  refine ⟨⟨by rw [List.length_set]; exact L.len, by unfold Stt.wipe; rw [List.length_set]; exact L.le, L.sm, L.al, L.wk, L.wst, fun j ds e => ?_, fun j k ds es h1 h2 => L.inj j k ds es (wipe_get h1).1 (wipe_get h2).1, fun j x hn e => ?_⟩, hs⟩
  · obtain ⟨g, ne⟩ := wipe_get e
    obtain ⟨a1, a2, a3, ys, a4, a5⟩ := L.own j ds g
    exact ⟨fun hn => by rw [List.getElem?_set_ne ne]; exact a1 hn, a2, a3, ys, a4, a5.mono hs⟩
  · obtain ⟨g, ne⟩ := wipe_get e
    obtain ⟨v, a1, a2⟩ := L.val j x hn g
    exact ⟨v, by rw [List.getElem?_set_ne ne]; exact a1, a2.mono hs⟩
/-! ### a comprehension: the target is the slot i -/
/-- the state in the block: what is hidden W, the slots G, what is made so far -/
def Sb (W : Hp → Prop) (G : List (Option En)) (acc : List PyData) : Stt := (Stt.mk W G).gh acc
inductive LpC (c : Cn) (i : Nat) (G : List (Option En)) (tt : TT) (te : TE) : (Hp → Prop) → List PyData → List Dx → (Hp → Prop) → List PyData → Prop
  | nil {W : Hp → Prop} {acc : List PyData} : LpC c i G tt te W acc [] W acc
  | yes {W W1 W2 W3 : Hp → Prop} {acc ys : List PyData} {x : Dx} {xs : List Dx} {y : PyData} : EvB c (Sb W (G.set i (some (.x x))) acc) tt true (Sb W1 (G.set i (some (.x x))) acc) → EvS c (Sb W1 (G.set i (some (.x x))) acc) te (.d y) (Sb W2 (G.set i (some (.x x))) acc) →
      LpC c i G tt te W2 (acc ++ [y]) xs W3 ys → LpC c i G tt te W acc (x :: xs) W3 ys
  | no {W W1 W3 : Hp → Prop} {acc ys : List PyData} {x : Dx} {xs : List Dx} : EvB c (Sb W (G.set i (some (.x x))) acc) tt false (Sb W1 (G.set i (some (.x x))) acc) → LpC c i G tt te W1 acc xs W3 ys → LpC c i G tt te W acc (x :: xs) W3 ys
theorem Sl.reslot {A : Nat → Addr} {σ σ' : L2.St} {H : Hp} {i : Nat} (L : Sl c A S σ' H) (hi : S.G[i]? = some none) (hl : σ.length = σ'.length) (h : ∀ j, j ≠ i → σ[j]? = σ'[j]?) : Sl c A S σ H := by
  have ne : ∀ {j : Nat} {e : En}, S.G[j]? = some (some e) → j ≠ i := fun {j e} q z => by
    rw [z, hi] at q
    cases q
  refine ⟨by rw [hl]; exact L.len, L.le, L.sm, L.al, L.wk, L.wst, fun j ds e => ?_, L.inj, fun j x hn e => ?_⟩
  · obtain ⟨a1, r⟩ := L.own j ds e
    exact ⟨fun hn => by rw [h j (ne e)]; exact a1 hn, r⟩
  · obtain ⟨v, a1, a2⟩ := L.val j x hn e
    exact ⟨v, by rw [h j (ne e)]; exact a1, a2⟩
theorem sb_put {W : Hp → Prop} {G : List (Option En)} {acc : List PyData} {i : Nat} (hi : i < G.length) : ((Sb W G acc).wipe i).put i x = Sb W (G.set i (some (.x x))) acc := by
  unfold Sb Stt.gh Stt.wipe Stt.put
  simp only [List.set_set]
  rw [List.set_append_left _ _ hi]
theorem sb_wipe {W : Hp → Prop} {G : List (Option En)} {acc : List PyData} {i : Nat} (hi : G[i]? = some none) : (Sb W (G.set i (some (.x x))) acc).wipe i = Sb W G acc := by
  have hl : i < G.length := (List.getElem?_eq_some_iff.mp hi).1
  unfold Sb Stt.gh Stt.wipe
  simp only
  rw [List.set_append_left _ _ (by rw [List.length_set]; exact hl), List.set_set]
  congr 1
  congr 1
  refine List.ext_getElem? fun j => ?_
  by_cases hj : i = j
  · subst hj
    rw [List.getElem?_set_self hl, hi]
  · rw [List.getElem?_set_ne hj]
theorem lc_core {wi : TI} {xs : List Dx} {tt : TT} {i : Nat} {W1 W2 : Hp → Prop} {G : List (Option En)} {ys : List PyData} (hn : i < c.n) (hG : G[i]? = some none) (hi : EvI c S wi xs ⟨W1, G⟩) (hz : xs.length ≤ 100000)
    (h : LpC c i G tt te W1 [] xs W2 ys) : ∀ A σ H, Sl c A S σ H → ∀ Q : VK, (∀ p H', c.n ≤ G.length → Sl c (setA A G.length p) (Sb W2 G ys) σ H' → Same (hid c A S H) (hid c (setA A G.length p) (Sb W2 G ys) H') → Q (.ref p) H') → tLc wi (gName i) tt te [i] σ H Q := fun A σ H L Q q => hi A σ H L _ fun J H1 L1 e1 hw => fun p hp => by
  have hl : i < G.length := (List.getElem?_eq_some_iff.mp hG).1
  obtain ⟨L2, e2⟩ := L1.lay hp
  refine ⟨fun k m H' => m + k = xs.length ∧ k ≤ xs.length ∧ ∃ W acc, acc.length ≤ k ∧ Sl c (setA A G.length p) (Sb W G acc) σ H' ∧ Same (hid c A ⟨W1, G⟩ H1) (hid c (setA A G.length p) (Sb W G acc) H') ∧ LpC c i G tt te W acc (xs.drop k) W2 ys,
    ⟨xs.length, by omega, Nat.zero_le _, W1, [], Nat.le_refl _, L2, e2, h⟩, ?_⟩
  rintro k m H' ⟨em, hk, W, acc, ha, L', s', hl'⟩
  obtain ⟨h1, h2⟩ := hw H' (s'.trans hidP_le)
  by_cases hlt : k < xs.length
  · obtain ⟨x, hx⟩ : ∃ x, xs[k]? = some x := ⟨_, List.getElem?_eq_getElem hlt⟩
    have hd : xs.drop k = x :: xs.drop (k + 1) := by
      rw [List.drop_eq_getElem_cons hlt]
      rw [List.getElem?_eq_getElem hlt] at hx
      cases hx
      rfl
    rw [hd] at hl'
    obtain ⟨hg, hy⟩ := h1 k x hx
    refine .inr ⟨hg, fun H2 => ∃ W acc, acc.length ≤ k + 1 ∧ Sl c (setA A G.length p) (Sb W G acc) σ H2 ∧ Same (hid c A ⟨W1, G⟩ H1) (hid c (setA A G.length p) (Sb W G acc) H2) ∧ LpC c i G tt te W acc (xs.drop (k + 1)) W2 ys, fun H2 hn => ⟨m - 1, by omega, by omega, by omega, hn⟩, fun v H2 hv => ?_⟩
    obtain ⟨sm, hr⟩ := hy v H2 hv
    obtain ⟨L3, s3⟩ := L'.grow sm
    have rv := hr (fun b => c.P b ∨ (Sb W G acc).owns (setA A G.length p) b) (fun b hb => L'.hidAlive hb) s'
    obtain ⟨L4, s4⟩ := L3.wipe (i := i)
    obtain ⟨L5, s5⟩ := L4.put (i := i) (Rx.mono s4 rv)
    rw [sb_put hl] at L5 s5
    have wi_ : wipe σ [i] = σ.set i none := rfl
    refine ⟨by show ((σ.set i none).set i (some v)).set i none = σ.set i none; rw [List.set_set, List.set_set], ?_⟩
    show tt ((σ.set i none).set i (some v)) H2 _
    have back : ∀ {W' : Hp → Prop} {acc' : List PyData} {H6 : Hp}, Sl c (setA A G.length p) (Sb W' (G.set i (some (.x x))) acc') ((σ.set i none).set i (some v)) H6 → Sl c (setA A G.length p) (Sb W' G acc') σ H6 ∧ Same (hid c (setA A G.length p) (Sb W' (G.set i (some (.x x))) acc') H6) (hid c (setA A G.length p) (Sb W' G acc') H6) := fun {W' acc' H6} L6 => by
      obtain ⟨L7, s7⟩ := L6.wipe (i := i)
      rw [sb_wipe hG] at L7 s7
      refine ⟨L7.reslot (i := i) ?_ (by simp) fun j hj => ?_, s7⟩
      · show (G ++ [some (En.own acc')])[i]? = some none
        rw [List.getElem?_append_left hl]
        exact hG
      · rw [List.set_set, List.set_set, List.getElem?_set_ne (Ne.symm hj)]
    cases hl' with
    | yes hb he hc =>
      rename_i Wa Wb ya
      refine hb _ _ _ L5 _ fun H6 L6 s6 => ?_
      rw [if_pos rfl]
      refine he _ _ _ L6 _ fun w H7 L7 s7 r7 => ?_
      obtain ⟨xs', a1, _⟩ := L7.shed (S := ⟨_, G.set i (some (.x x))⟩) (by rw [List.length_set]; exact L1.le)
      have at_ : (Sb Wb (G.set i (some (.x x))) acc).G[G.length]? = some (some (En.own acc)) := by
        show (G.set i (some (En.x x)) ++ [some (En.own acc)])[G.length]? = _
        rw [List.getElem?_append_right (by rw [List.length_set]; exact Nat.le_refl _), List.length_set, Nat.sub_self]
        rfl
      obtain ⟨_, _, _, zs, b1, b2⟩ := L7.own G.length acc at_
      rw [setA_same] at b1
      refine ⟨zs, b1, ?_, ?_⟩
      · rw [b2.len]
        exact Nat.lt_of_le_of_lt (Nat.le_trans ha (Nat.le_trans hk hz)) (by decide)
      · obtain ⟨L8, s8⟩ := L7.chg at_ (b2.app (.one r7))
        rw [setA_same] at L8 s8
        have e8 : (Sb Wb (G.set i (some (.x x))) acc).own G.length (acc ++ [ya]) = Sb Wb (G.set i (some (.x x))) (acc ++ [ya]) := by
          have := gh_own (S := ⟨Wb, G.set i (some (.x x))⟩) acc (acc ++ [ya])
          rw [List.length_set] at this
          exact this
        rw [e8] at L8 s8
        obtain ⟨L9, s9⟩ := back L8
        exact ⟨_, _, by rw [List.length_append, List.length_singleton]; omega, L9, ((((((s'.trans s3).trans s4).trans s5).trans s6).trans s7).trans s8).trans s9, hc⟩
    | no hb hc =>
      refine hb _ _ _ L5 _ fun H6 L6 s6 => ?_
      rw [if_neg Bool.false_ne_true]
      obtain ⟨L9, s9⟩ := back L6
      exact ⟨_, _, by omega, L9, (((((s'.trans s3).trans s4).trans s5).trans s6).trans s9), hc⟩
  · have hd : xs.drop k = [] := List.drop_eq_nil_of_le (by omega)
    rw [hd] at hl'
    cases hl'
    exact .inl ⟨h2 k (by omega), q _ _ L1.le L' (e1.trans s')⟩
theorem ev_lc {wi : TI} {xs : List Dx} {tt : TT} {i : Nat} {W1 W2 : Hp → Prop} {G : List (Option En)} {ys : List PyData} (hn : i < c.n) (hG : G[i]? = some none) (hi : EvI c S wi xs ⟨W1, G⟩) (hz : xs.length ≤ 100000)
    (h : LpC c i G tt te W1 [] xs W2 ys) : EvS c S (tLc wi (gName i) tt te [i]) (.d (.list ys)) ⟨W2, G⟩ := fun A σ H L Q q => lc_core hn hG hi hz h A σ H L Q fun p H' hle L' s' => by
  obtain ⟨zs, a1, L8, s8, r8⟩ := L'.shed (S := ⟨W2, G⟩) hle
  obtain ⟨L9, e9⟩ := L8.congrA (A' := A) fun j hj => (setA_ne (by intro z; simp only at hj; omega)).symm
  rw [setA_same] at r8
  rw [← e9] at s8 r8
  exact q _ _ L9 (s'.trans s8) r8
open Classical in
/-- a heap without one object -/
noncomputable def cutH (H : Hp) (p : Addr) : Hp := fun b => if b = p then none else H b
theorem cutH_same {H : Hp} {p : Addr} : cutH H p p = none := if_pos rfl
theorem cutH_ne {H : Hp} {p b : Addr} (h : b ≠ p) : cutH H p b = H b := if_neg h
/-- .. for the def's own use -/
theorem eo_lc {wi : TI} {xs : List Dx} {tt : TT} {i : Nat} {W1 W2 : Hp → Prop} {G : List (Option En)} {ys : List PyData} (hn : i < c.n) (hG : G[i]? = some none) (hi : EvI c S wi xs ⟨W1, G⟩) (hz : xs.length ≤ 100000)
    (h : LpC c i G tt te W1 [] xs W2 ys) : EvO c S (tLc wi (gName i) tt te [i]) ys ⟨W2, G⟩ := fun A σ H L Q q => lc_core hn hG hi hz h A σ H L Q fun p H' hle L' s' => by
  have up : ∀ {i : Nat} {e : En}, G[i]? = some (some e) → (Sb W2 G ys).G[i]? = some (some e) := fun {i e} h => by
    show (G ++ [some (.own ys)])[i]? = _
    rw [List.getElem?_append_left (List.getElem?_eq_some_iff.mp h).1]
    exact h
  have lt : ∀ {i : Nat} {e : En}, G[i]? = some (some e) → i ≠ G.length := fun h => Nat.ne_of_lt (List.getElem?_eq_some_iff.mp h).1
  have at_ : (Sb W2 G ys).G[G.length]? = some (some (En.own ys)) := by
    show (G ++ [some (.own ys)])[G.length]? = _
    simp
  have sA : ∀ {i : Nat} {e : En}, G[i]? = some (some e) → setA A G.length p i = A i := fun h => setA_ne (lt h).symm
  obtain ⟨_, e2, e3, zs, e4, e5⟩ := L'.own _ ys at_
  rw [setA_same] at e2 e3 e4
  have ow : ∀ b, Stt.owns ⟨W2, G⟩ A b → (Sb W2 G ys).owns (setA A G.length p) b := fun b ⟨i, ds, e, z⟩ => ⟨i, ds, up e, z.trans (sA e).symm⟩
  have np : ∀ (i : Nat) (ds : List PyData), G[i]? = some (some (En.own ds)) → A i ≠ p := fun i ds e z => lt e (L'.inj i _ ds ys (up e) at_ (by rw [sA e, setA_same]; exact z))
  have hs : Same (hid c (setA A G.length p) (Sb W2 G ys) H') (hid c A ⟨W2, G⟩ (cutH H' p)) := fun b o e => by
    obtain ⟨a1, a2⟩ := hidP_some e
    have nb : b ≠ p := fun z => a2 (.inr ⟨G.length, ys, at_, by rw [setA_same]; exact z⟩)
    show hidP _ _ b = _
    rw [hidP_neg (fun z => a2 (z.imp id (ow b))), cutH_ne nb]
    exact a1
  have nP : ∀ b, c.P b → b ≠ p := fun b hb z => e3 (z ▸ hb)
  have L9 : Sl c A ⟨W2, G⟩ σ (cutH H' p) := by
    refine ⟨L'.len, hle, fun b o m e => ?_, fun b hb => ?_, L'.wst H' _ ⟨fun b hb => cutH_ne (nP b hb), fun b o n q => by rw [cutH_ne (fun z => n zs (by rw [z, e4] at q; exact (Option.some.inj q).symm))]; exact q⟩ L'.wk, L'.wst, fun i ds e => ?_, fun i j ds es h1 h2 z => L'.inj i j ds es (up h1) (up h2) (by rw [sA h1, sA h2]; exact z), fun i x hn e => ?_⟩
    · have nb : b ≠ p := fun z => by
        rw [z, e2] at e
        cases e
      rw [cutH_ne nb]
      exact L'.sm b o m e
    · rw [cutH_ne (nP b hb)]
      exact L'.al b hb
    · obtain ⟨a1, a2, a3, ws, a4, a5⟩ := L'.own i ds (up e)
      rw [sA e] at a1 a2 a3 a4
      exact ⟨a1, a2, a3, ws, by rw [cutH_ne (np i ds e)]; exact a4, a5.mono hs⟩
    · obtain ⟨v, a1, a2⟩ := L'.val i x hn (up e)
      exact ⟨v, a1, a2.mono hs⟩
  have hu : upd (cutH H' p) p (.lst zs) = H' := by
    funext b
    by_cases hb : b = p
    · subst hb
      rw [upd_same, e4]
    · rw [upd_ne hb, cutH_ne hb]
  have := q p zs (cutH H' p) L9 (s'.trans hs) (e5.mono hs) cutH_same
  rw [hu] at this
  exact this
end
end Tk

/-! TkFn -/
set_option Elab.async false
set_option linter.all false
set_option autoImplicit false
set_option maxRecDepth 100000
set_option maxHeartbeats 2000000
namespace Tk
open PySem PySem.Spec PyProof.Rows L2
/-! ### promises -/
inductive Res where
  | ok (x : Dx) | ex (D : Addr)
def Goes (K : PySem.W.Frag) (C : Addr) (H : Hp) (P : Addr → Prop) (Q : VK) (E : XK) : Res → Prop
  | .ok z => ∀ v H', Same H H' → Rx K C (hidP P H') v z → Q v H'
  | .ex D => ∀ H', Same H H' → E (.ref D) none H'
def spF (K : PySem.W.Frag) (C : Addr) (m : List Dx → Res → Prop) : Sp := fun vs H Q E => ∃ (P : Addr → Prop) (xs : List Dx) (r : Res), (∀ b, P b → H b ≠ none) ∧ RxA K C (hidP P H) vs xs ∧ m xs r ∧ Goes K C H P Q E r
theorem RxA.len {K : PySem.W.Frag} {C : Addr} {H : Hp} : ∀ {vs : List V} {xs : List Dx}, RxA K C H vs xs → vs.length = xs.length
  | _, _, .nil => rfl
  | _, _, .cons _ a => by rw [List.length_cons, List.length_cons, RxA.len a]
theorem RxA.get {K : PySem.W.Frag} {C : Addr} {H : Hp} : ∀ {vs : List V} {xs : List Dx} {i : Nat} {x : Dx}, RxA K C H vs xs → xs[i]? = some x → ∃ v, vs[i]? = some v ∧ Rx K C H v x
  | _, _, _, _, .nil, e => by simp at e
  | _, _, 0, _, .cons h _, e => by
    simp at e
    subst e
    exact ⟨_, rfl, h⟩
  | _, _, i + 1, _, .cons _ a, e => by
    obtain ⟨v, h1, h2⟩ := RxA.get (i := i) a (by simpa using e)
    exact ⟨v, by simpa using h1, h2⟩
section
variable {c : Cn} {S S1 S2 : Stt} {ta : TA} {x y z : Dx} {m : List Dx → Res → Prop} {xs : List Dx} {E : XK}
theorem ev_callF (h : EvA c S ta xs S1) (hm : m xs (.ok z)) : EvS c S (tCall (spF c.K c.C m) [] E ta) z S1 := fun A σ H L Q q => h A σ H L _ fun vs H1 L1 e1 r1 =>
  ⟨fun b => c.P b ∨ S1.owns A b, xs, .ok z, fun b hb => L1.hidAlive hb, by rw [List.append_nil]; exact r1, hm, fun v H2 s2 r2 => by
    obtain ⟨L2, e2⟩ := L1.grow s2
    exact q v H2 L2 (e1.trans e2) r2⟩
theorem ex_callF {D : Addr} (h : EvA c S ta xs S1) (hm : m xs (.ex D)) (hE : ∀ H, Lf c S1.W H → E (.ref D) none H) : EvS c S (tCall (spF c.K c.C m) [] E ta) z S2 := fun A σ H L Q q => h A σ H L _ fun vs H1 L1 e1 r1 =>
  ⟨fun b => c.P b ∨ S1.owns A b, xs, .ex D, fun b hb => L1.hidAlive hb, by rw [List.append_nil]; exact r1, hm, fun H2 s2 => hE H2 (L1.grow s2).1.lf⟩
end
/-- the state at a def's entry: N names, the arguments first -/
def S0 (n : Nat) (xs : List Dx) : Stt := ⟨fun _ => True, xs.map (fun x => some (.x x)) ++ List.replicate (n - xs.length) none⟩
/-- what stays in such a def -/
structure Pure (c : Cn) (K : PySem.W.Frag) (C : Addr) (n : Nat) : Prop where
  K : c.K = K
  C : c.C = C
  n : c.n = n
  mt : ∀ b, ¬ c.Mt b
/-- how the body ends -/
def Ends_ (c : Cn) (E : XK) (n : Nat) (xs : List Dx) (t : TS) : Res → Prop
  | .ok z => (∃ W, RunS c (S0 n xs) t (.rt z W)) ∨ (z = .d .none ∧ ∃ S', RunS c (S0 n xs) t (.nx S'))
  | .ex D => (∀ H, Lf c (fun _ => True) H → E (.ref D) none H) → RunS c (S0 n xs) t (.rt (.d .none) fun _ => False)
theorem s0_get {n i : Nat} {xs : List Dx} {e : En} (h : (S0 n xs).G[i]? = some (some e)) : ∃ x, e = .x x ∧ xs[i]? = some x := by
  unfold S0 at h
  by_cases hi : i < xs.length
  · rw [List.getElem?_append_left (by rw [List.length_map]; exact hi), List.getElem?_map] at h
    cases q : xs[i]? with
    | none =>
      rw [q] at h
      cases h
    | some x =>
      rw [q] at h
      cases h
      exact ⟨x, rfl, rfl⟩
  · rw [List.getElem?_append_right (by rw [List.length_map]; omega)] at h
    rw [List.getElem?_replicate] at h
    split at h <;> cases h
section
variable {P : Program} {w : World} {K : PySem.W.Frag} {mg : Str → Option Value} {base : Heap} {C : Addr}
/-- the context of a def's body -/
abbrev fx (P : Program) (w : World) (K : PySem.W.Frag) (mg : Str → Option Value) (base : Heap) (N : List Str) (qual : Str) (st : Stmt) (f : Addr) (cdv : Value) (A : Around) (outer : List Env) (s : Shared) (H : Hp) (E : XK) : Cx := cxOf (L2.CX P w) P w K mg base N qual (defScope st) f cdv A outer s H E
/-- THE RULE for a def that leaves what it is given as it is -/
theorem fn_ok {x qual : Str} {st : Stmt} {f : Addr} {fd : FuncData} {N ps : List Str} {k : Nat} {m : List Dx → Res → Prop} (F : Fun K x qual st f fd) (S : FnScope N ps (defScope st)) (len : ∀ xs r, m xs r → xs.length = ps.length)
    (hbody : ∀ (cdv : Value) (A : Around) (outer : List Env) (s : Shared) (H : Hp) (E : XK), Room k (A.deeper (envOfC qual (defScope st) s.heap.objs.size f cdv)) → ∀ xs r, m xs r →
      ∃ t, PSs (fx P w K mg base N qual st f cdv A outer s H E) (defBody st) t ∧ ∀ c, Pure c K C N.length → Ends_ c E N.length xs t r) : FnOk P w K mg base (L2.CX P w) (k + 1) f fd ps (spF K C m) := by
  have hps : ps.length ≤ N.length := by
    have h := congrArg List.length S.pre
    rw [List.length_take] at h
    omega
  refine F.okX S (fun vs H Q E ⟨R, xs, r, h1, h2, h3, h4⟩ => by rw [h2.len]; exact len xs r h3) fun cdv A outer s H vs Q E hr ⟨R, xs, r, h1, h2, h3, h4⟩ => ?_
  obtain ⟨t, ht, hc⟩ := hbody cdv A outer s H E hr xs r h3
  refine ⟨t, ht, ?_⟩
  have hxs := len xs r h3
  have L : Sl ⟨K, C, H, R, fun _ => False, fun _ z => z.elim, N.length⟩ (fun _ => 0) (S0 N.length xs) (L2.start N vs) H := by
    have no : ∀ b, ¬ (S0 N.length xs).owns (fun _ => 0) b := fun b ⟨i, ds, e, _⟩ => by
      obtain ⟨x, q, _⟩ := s0_get e
      cases q
    refine ⟨?_, ?_, fun b o _ e => e, h1, trivial, fun _ _ _ z => z, fun i ds e => ?_, fun i j ds es e _ _ => ?_, fun i x _ e => ?_⟩
    · unfold L2.start
      rw [List.length_append, List.length_map, List.length_replicate, h2.len]
      show xs.length + (N.length - xs.length) = N.length
      omega
    · show N.length ≤ (S0 N.length xs).G.length
      unfold S0
      rw [List.length_append, List.length_map, List.length_replicate]
      omega
    · obtain ⟨x, q, _⟩ := s0_get e
      cases q
    · obtain ⟨x, q, _⟩ := s0_get e
      cases q
    · obtain ⟨x', q, hx⟩ := s0_get e
      cases q
      obtain ⟨v, v1, v2⟩ := h2.get hx
      refine ⟨v, ?_, v2.mono (hidP_sub (fun b z => z.elim id fun z => absurd z (no b)) fun b o _ q => q)⟩
      unfold L2.start
      rw [List.getElem?_append_left (by rw [List.length_map]; exact (List.getElem?_eq_some_iff.mp v1).1), List.getElem?_map, v1]
      rfl
  have he := hc ⟨K, C, H, R, fun _ => False, fun _ z => z.elim, N.length⟩ ⟨rfl, rfl, rfl, fun _ z => z⟩
  have sm : ∀ {W : Hp → Prop} {H' : Hp}, Lf ⟨K, C, H, R, fun _ => False, fun _ z => z.elim, N.length⟩ W H' → Same H H' := fun l b o e => l.sm b o (fun z => z) e
  cases r with
  | ok z =>
    rcases he with ⟨W, he⟩ | ⟨rfl, S', he⟩
    · exact he _ _ _ L _ fun v H' l rv => h4 v H' (sm l) rv
    · exact he _ _ _ L _ fun A' σ' H' L' _ => h4 .non H' (sm L'.lf) Dt.non
  | ex D => exact he (fun H' l => h4 H' (sm l)) _ _ _ L _ fun v H' l _ => l.wk.elim
end
end Tk

/-! TkW -/
set_option Elab.async false
set_option linter.all false
set_option autoImplicit false
set_option maxRecDepth 100000
set_option maxHeartbeats 2000000
namespace Tk
open PySem PySem.Spec PyProof.Rows L2
theorem DtA.bls_inv {K : PySem.W.Frag} {H : Hp} : ∀ {ns : List Bool} {vs : List V}, DtA K H vs (ns.map PyData.bool) → vs = ns.map V.bl
  | [], _, .nil => rfl
  | n :: r, _, .cons h a => by
    cases h
    rw [DtA.bls_inv a]
    rfl
/-! ### a def that others call -/
structure Cal (P : Program) (w : World) (K : PySem.W.Frag) (mg : Str → Option Value) (base : Heap) (x : Str) (k : Nat) (ps : List Str) (sp : Sp) : Prop where
  ex : ∃ f fd, mg x = some (.ref f) ∧ PySem.W.keepIn K (.ref f) = true ∧ FnOk P w K mg base (L2.CX P w) k f fd ps sp ∧ L2.Binds K fd ps []
theorem Cal.mono {P : Program} {w : World} {K : PySem.W.Frag} {mg : Str → Option Value} {base : Heap} {x : Str} {j k : Nat} {ps : List Str} {sp : Sp} (h : Cal P w K mg base x j ps sp) (l : j ≤ k) : Cal P w K mg base x k ps sp := by
  obtain ⟨f, fd, a, b, c, d⟩ := h.ex
  exact ⟨f, fd, a, b, c.mono l, d⟩
section
variable {X : Cx} {k : Nat} {ps : List Str} {sp : Sp} {x : Str} {p pos : Pos} {e : Expr} {es : List Expr} {t : TA} {E : XK}
theorem pe_cal (h : Cal X.prog X.w X.K X.mg X.base x k ps sp) (hr : Room k X.A) (hx : Passes (L2.CX X.prog X.w) X E) (ha : PA X (e :: es) t) (hg : Gl X x := by rfl) (hdb : (x == ("__debug__" : Str)) = false := by decide)
    (he : starEach (e :: es) X.env = (false, eval e X.env) :: starEach es X.env := by rfl) (hpl : (backTo pos (starEach es X.env)).any (·.1) = false := by rfl) : PE X (.Call (.Name x p) (e :: es) [] pos) (tCall sp [] E t) := by
  obtain ⟨f, fd, a, b, c, d⟩ := h.ex
  exact pe_call c hr hg a b d .nil hx ha hdb he hpl
end
/-- what a def lets out, its own caller takes -/
theorem pxE {P : Program} {w : World} {K : PySem.W.Frag} {mg : Str → Option Value} {base : Heap} {N : List Str} {qual : Str} {st : Stmt} {f : Addr} {cdv : Value} {A : Around} {outer : List Env} {s : Shared} {H : Hp} {E : XK} :
    Passes (L2.CX P w) (fx P w K mg base N qual st f cdv A outer s H E) E := passes_call (takes_of rfl rfl rfl rfl) fun _ _ _ _ h => h
theorem end_ret {c : Cn} {n : Nat} {E : XK} {xs : List Dx} {te : TE} {z : Dx} (h : EvS c (S0 n xs) te z (S0 n xs)) : Ends_ c E n xs (tRet te) (.ok z) := .inl ⟨_, run_ret h⟩
theorem end_run {c : Cn} {n : Nat} {E : XK} {xs : List Dx} {t : TS} {z : Dx} (W : Hp → Prop) (h : RunS c (S0 n xs) t (.rt z W)) : Ends_ c E n xs t (.ok z) := .inl ⟨W, h⟩
theorem end_none {c : Cn} {n : Nat} {E : XK} {xs : List Dx} {t : TS} (S' : Stt) (h : RunS c (S0 n xs) t (.nx S')) : Ends_ c E n xs t (.ok (.d .none)) := .inr ⟨rfl, S', h⟩
/-! ### isinstance -/
def tyD : PyData → String
  | .none => "NoneType"
  | .bool _ => "bool"
  | .int _ => "int"
  | .str _ => "str"
  | .list _ => "list"
  | .tuple _ => "tuple"
  | .dict _ => "dict"
def isTup : PyData → Bool
  | .tuple _ => true
  | _ => false
def isStr : PyData → Bool
  | .str _ => true
  | _ => false
def isLst : PyData → Bool
  | .list _ => true
  | _ => false
def isDic : PyData → Bool
  | .dict _ => true
  | _ => false
def isBol : PyData → Bool
  | .bool _ => true
  | _ => false
theorem kit_tup : ∀ d : PyData, kitB (tyD d) "tuple" = some (isTup d)
  | .none => (by decide +kernel : kitB "NoneType" "tuple" = some false)
  | .bool _ => (by decide +kernel : kitB "bool" "tuple" = some false)
  | .int _ => (by decide +kernel : kitB "int" "tuple" = some false)
  | .str _ => (by decide +kernel : kitB "str" "tuple" = some false)
  | .list _ => (by decide +kernel : kitB "list" "tuple" = some false)
  | .tuple _ => (by decide +kernel : kitB "tuple" "tuple" = some true)
  | .dict _ => (by decide +kernel : kitB "dict" "tuple" = some false)
theorem kit_str : ∀ d : PyData, kitB (tyD d) "str" = some (isStr d)
  | .none => (by decide +kernel : kitB "NoneType" "str" = some false)
  | .bool _ => (by decide +kernel : kitB "bool" "str" = some false)
  | .int _ => (by decide +kernel : kitB "int" "str" = some false)
  | .str _ => (by decide +kernel : kitB "str" "str" = some true)
  | .list _ => (by decide +kernel : kitB "list" "str" = some false)
  | .tuple _ => (by decide +kernel : kitB "tuple" "str" = some false)
  | .dict _ => (by decide +kernel : kitB "dict" "str" = some false)
theorem kit_lst : ∀ d : PyData, kitB (tyD d) "list" = some (isLst d)
  | .none => (by decide +kernel : kitB "NoneType" "list" = some false)
  | .bool _ => (by decide +kernel : kitB "bool" "list" = some false)
  | .int _ => (by decide +kernel : kitB "int" "list" = some false)
  | .str _ => (by decide +kernel : kitB "str" "list" = some false)
  | .list _ => (by decide +kernel : kitB "list" "list" = some true)
  | .tuple _ => (by decide +kernel : kitB "tuple" "list" = some false)
  | .dict _ => (by decide +kernel : kitB "dict" "list" = some false)
theorem kit_dic : ∀ d : PyData, kitB (tyD d) "dict" = some (isDic d)
  | .none => (by decide +kernel : kitB "NoneType" "dict" = some false)
  | .bool _ => (by decide +kernel : kitB "bool" "dict" = some false)
  | .int _ => (by decide +kernel : kitB "int" "dict" = some false)
  | .str _ => (by decide +kernel : kitB "str" "dict" = some false)
  | .list _ => (by decide +kernel : kitB "list" "dict" = some false)
  | .tuple _ => (by decide +kernel : kitB "tuple" "dict" = some false)
  | .dict _ => (by decide +kernel : kitB "dict" "dict" = some true)
theorem kit_bol : ∀ d : PyData, kitB (tyD d) "bool" = some (isBol d)
  | .none => (by decide +kernel : kitB "NoneType" "bool" = some false)
  | .bool _ => (by decide +kernel : kitB "bool" "bool" = some true)
  | .int _ => (by decide +kernel : kitB "int" "bool" = some false)
  | .str _ => (by decide +kernel : kitB "str" "bool" = some false)
  | .list _ => (by decide +kernel : kitB "list" "bool" = some false)
  | .tuple _ => (by decide +kernel : kitB "tuple" "bool" = some false)
  | .dict _ => (by decide +kernel : kitB "dict" "bool" = some false)
theorem lay_dic {d : PyData} (h : d.canLay0 = true) : isDic d = false := by
  cases d <;> first | rfl | exact absurd h (by simp [PyData.canLay0])
theorem dt_ty {K : PySem.W.Frag} {H : Hp} {v : V} {d : PyData} (h : Dt K H v d) (hx : isDic d = false) : TyX K H v (.type (tyD d)) := by
  cases h with
  | non => exact .base .non
  | bl b => exact .base (.bl b)
  | int i => exact .base (.int i)
  | str x => exact .base (.str x)
  | lst h _ => exact .base (.lst h)
  | tup h _ =>
    rcases h with (h | ⟨o, h⟩) | ⟨o, its, n, h1, h2, _⟩
    · exact .base (.tup h)
    · exact .fTuple h
    · exact .kTuple h1 h2
  | exc _ => cases hx
section
variable {c : Cn} {S S1 S2 : Stt} {te : TE} {d : PyData} {b : Bool}
theorem ev_isi {n : String} (h : EvS c S te (.d d) S1) (hk : kitB (tyD d) n = some b) (hx : isDic d = false := by rfl) : EvS c S (tCB (rIsi c.K) (tCons te (tCons (tC (.ty n)) tNil))) (.d (.bool b)) S1 := fun A σ H L Q q => h A σ H L _ fun v H1 L1 e1 r1 =>
  ⟨v, .ty n, .type (tyD d), .type n, b, rfl, .ty n, dt_ty (Dt.mono hidP_le r1) hx, kit_ty hk, q _ H1 L1 e1 (Dt.bl b)⟩
/-- isinstance(x, (A, B)) -/
theorem ev_isi2 {n1 n2 : String} {b1 b2 : Bool} (h : EvS c S te (.d d) S1) (h1 : kitB (tyD d) n1 = some b1) (h2 : kitB (tyD d) n2 = some b2) (hx : isDic d = false := by rfl) :
    EvS c S (tCB (rIsiT c.K) (tCons te (tCons (tTup (tCons (tC (.ty n1)) (tCons (tC (.ty n2)) tNil))) tNil))) (.d (.bool (b1 || b2))) S1 := fun A σ H L Q q => h A σ H L _ fun v H1 L1 e1 r1 =>
  ⟨(by decide : 2 ≤ sizeLine), fun p hp => by
    obtain ⟨L2, s2⟩ := L1.grow (same_new (o := .tup [V.ty n1, V.ty n2]) hp)
    refine ⟨v, p, [.ty n1, .ty n2], .type (tyD d), [.type n1, .type n2], b1 || b2, rfl, upd_same, .cons (.ty n1) (.cons (.ty n2) .nil), dt_ty (Dt.mono (Same.trans hidP_le (same_new hp)) r1) hx, ?_, q _ _ L2 (e1.trans s2) (Dt.bl _)⟩
    refine kitAny_cons (kit_ty h1) (fun hb => ?_) fun hb => by rw [hb] <;> rfl
    rw [hb, Bool.false_or]
    exact kitAny_cons (kit_ty h2) (fun hb => by rw [hb] <;> rfl) fun hb => hb⟩
/-! ### len, tuple, list -/
def rLenSq (K : PySem.W.Frag) : List V → Hp → VK → Prop := fun xs H Q => ∃ p ys, xs = [.ref p] ∧ (SqL K H p ys ∨ SqT K H p ys) ∧ Q (.int ys.length) H
theorem call_lenSq {X : Cx} : CallR X (.builtin "len") (rLenSq X.K) := call_len_seq
def rLenStr : List V → Hp → VK → Prop := fun xs H Q => ∃ z, xs = [.str z] ∧ z.length ≤ sizeLine ∧ Q (.int z.length) H
theorem call_lenStr {X : Cx} : CallR X (.builtin "len") rLenStr := call_len_str
theorem ev_lenT {ds : List PyData} (h : EvS c S te (.d (.tuple ds)) S1) : EvS c S (tCB (rLenSq c.K) (tCons te tNil)) (.d (.int (ds.length : Int))) S1 := fun A σ H L Q q => h A σ H L _ fun v H1 L1 e1 r1 => by
  obtain ⟨a, vs, rfl, h1, h2⟩ := Dt.tup_inv r1
  refine ⟨a, vs, rfl, .inr (same_sqT hidP_le h1), ?_⟩
  rw [h2.len]
  exact q _ H1 L1 e1 (Dt.int _)
theorem ev_lenL {ds : List PyData} (h : EvS c S te (.d (.list ds)) S1) : EvS c S (tCB (rLenSq c.K) (tCons te tNil)) (.d (.int (ds.length : Int))) S1 := fun A σ H L Q q => h A σ H L _ fun v H1 L1 e1 r1 => by
  obtain ⟨a, vs, rfl, h1, h2⟩ := Dt.lst_inv r1
  refine ⟨a, vs, rfl, .inl (.inl (.inl (hidP_le _ _ h1))), ?_⟩
  rw [h2.len]
  exact q _ H1 L1 e1 (Dt.int _)
theorem ev_lenO {i : Nat} {ds : List PyData} (hn : i < c.n) (hi : S.G[i]? = some (some (En.own ds))) : EvS c S (tCB (rLenSq c.K) (tCons (tVar i) tNil)) (.d (.int (ds.length : Int))) S := fun A σ H L Q q => by
  obtain ⟨e1, e2, e3, xs, e4, e5⟩ := L.own i ds hi
  refine ⟨_, e1 hn, A i, xs, rfl, .inl (.inl (.inl e4)), ?_⟩
  rw [e5.len]
  exact q _ H L (Same.refl _) (Dt.int _)
theorem ev_lenS {s : Str} (h : EvS c S te (.d (.str s)) S1) (hl : s.length ≤ sizeLine) : EvS c S (tCB rLenStr (tCons te tNil)) (.d (.int (s.length : Int))) S1 := fun A σ H L Q q => h A σ H L _ fun v H1 L1 e1 r1 =>
  ⟨s, by rw [Dt.str_inv r1], hl, q _ H1 L1 e1 (Dt.int _)⟩
def rTupOf (K : PySem.W.Frag) : List V → Hp → VK → Prop := fun xs H Q => ∃ p ys, xs = [.ref p] ∧ ((SqL K H p ys ∧ ∀ l, H l = none → Q (.ref l) (upd H l (.tup ys))) ∨ (SqT K H p ys ∧ Q (.ref p) H))
theorem call_tupOf {X : Cx} : CallR X (.type "tuple") (rTupOf X.K) := call_tuple_of
theorem ev_tupL {ds : List PyData} (h : EvS c S te (.d (.list ds)) S1) : EvS c S (tCB (rTupOf c.K) (tCons te tNil)) (.d (.tuple ds)) S1 := fun A σ H L Q q => h A σ H L _ fun v H1 L1 e1 r1 => by
  obtain ⟨a, vs, rfl, h1, h2⟩ := Dt.lst_inv r1
  refine ⟨a, vs, rfl, .inl ⟨.inl (.inl (hidP_le _ _ h1)), fun p hp => ?_⟩⟩
  obtain ⟨L2, s2⟩ := L1.grow (same_new (o := .tup vs) hp)
  refine q _ _ L2 (e1.trans s2) (Dt.tup (.inl (.inl ?_)) (h2.mono s2))
  show hidP _ _ p = _
  rw [hidP_neg (L1.new hp), upd_same]
theorem ev_tupT {ds : List PyData} (h : EvS c S te (.d (.tuple ds)) S1) : EvS c S (tCB (rTupOf c.K) (tCons te tNil)) (.d (.tuple ds)) S1 := fun A σ H L Q q => h A σ H L _ fun v H1 L1 e1 r1 => by
  obtain ⟨a, vs, rfl, h1, h2⟩ := Dt.tup_inv r1
  exact ⟨a, vs, rfl, .inr ⟨same_sqT hidP_le h1, q _ H1 L1 e1 r1⟩⟩
theorem ev_tupO {i : Nat} {ds : List PyData} (hn : i < c.n) (hi : S.G[i]? = some (some (En.own ds))) : EvS c S (tCB (rTupOf c.K) (tCons (tVar i) tNil)) (.d (.tuple ds)) S := fun A σ H L Q q => by
  obtain ⟨e1, e2, e3, xs, e4, e5⟩ := L.own i ds hi
  refine ⟨_, e1 hn, A i, xs, rfl, .inl ⟨.inl (.inl e4), fun p hp => ?_⟩⟩
  obtain ⟨L2, s2⟩ := L.grow (same_new (o := .tup xs) hp)
  refine q _ _ L2 s2 (Dt.tup (.inl (.inl ?_)) (e5.mono s2))
  show hidP _ _ p = _
  rw [hidP_neg (L.new hp), upd_same]
def rLstOf (K : PySem.W.Frag) : List V → Hp → VK → Prop := fun xs H Q => ∃ p ys, xs = [.ref p] ∧ (SqL K H p ys ∨ SqT K H p ys) ∧ ∀ l, H l = none → Q (.ref l) (upd H l (.lst ys))
theorem call_lstOf {X : Cx} : CallR X (.type "list") (rLstOf X.K) := call_list_of
theorem ev_lstT {ds : List PyData} (h : EvS c S te (.d (.tuple ds)) S1) : EvS c S (tCB (rLstOf c.K) (tCons te tNil)) (.d (.list ds)) S1 := fun A σ H L Q q => h A σ H L _ fun v H1 L1 e1 r1 => by
  obtain ⟨a, vs, rfl, h1, h2⟩ := Dt.tup_inv r1
  refine ⟨a, vs, rfl, .inr (same_sqT hidP_le h1), fun p hp => ?_⟩
  obtain ⟨L2, s2⟩ := L1.grow (same_new (o := .lst vs) hp)
  refine q _ _ L2 (e1.trans s2) (Dt.lst ?_ (h2.mono s2))
  show hidP _ _ p = _
  rw [hidP_neg (L1.new hp), upd_same]
theorem ev_lstL {ds : List PyData} (h : EvS c S te (.d (.list ds)) S1) : EvS c S (tCB (rLstOf c.K) (tCons te tNil)) (.d (.list ds)) S1 := fun A σ H L Q q => h A σ H L _ fun v H1 L1 e1 r1 => by
  obtain ⟨a, vs, rfl, h1, h2⟩ := Dt.lst_inv r1
  refine ⟨a, vs, rfl, .inl (.inl (.inl (hidP_le _ _ h1))), fun p hp => ?_⟩
  obtain ⟨L2, s2⟩ := L1.grow (same_new (o := .lst vs) hp)
  refine q _ _ L2 (e1.trans s2) (Dt.lst ?_ (h2.mono s2))
  show hidP _ _ p = _
  rw [hidP_neg (L1.new hp), upd_same]
/-- .. for the def's own use -/
theorem eo_lstL {ds : List PyData} (h : EvS c S te (.d (.list ds)) S1) : EvO c S (tCB (rLstOf c.K) (tCons te tNil)) ds S1 := fun A σ H L Q q => h A σ H L _ fun v H1 L1 e1 r1 => by
  obtain ⟨a, vs, rfl, h1, h2⟩ := Dt.lst_inv r1
  exact ⟨a, vs, rfl, .inl (.inl (.inl (hidP_le _ _ h1))), fun p hp => q p vs H1 L1 e1 h2 hp⟩
/-- all, any of a list of bools -/
theorem ev_all {bs : List Bool} (h : EvS c S te (.d (.list (bs.map .bool))) S1) : EvS c S (tCB (rAll c.K) (tCons te tNil)) (.d (.bool (bs.all id))) S1 := fun A σ H L Q q => h A σ H L _ fun v H1 L1 e1 r1 => by
  obtain ⟨a, vs, rfl, h1, h2⟩ := Dt.lst_inv r1
  obtain rfl := h2.bls_inv
  exact ⟨a, bs, rfl, .inl (.inl (hidP_le _ _ h1)), q _ H1 L1 e1 (Dt.bl _)⟩
theorem ev_any {bs : List Bool} (h : EvS c S te (.d (.list (bs.map .bool))) S1) : EvS c S (tCB (rAny c.K) (tCons te tNil)) (.d (.bool (bs.any id))) S1 := fun A σ H L Q q => h A σ H L _ fun v H1 L1 e1 r1 => by
  obtain ⟨a, vs, rfl, h1, h2⟩ := Dt.lst_inv r1
  obtain rfl := h2.bls_inv
  exact ⟨a, bs, rfl, .inl (.inl (hidP_le _ _ h1)), q _ H1 L1 e1 (Dt.bl _)⟩
/-- an own list against a new one -/
theorem ev_eqO {i : Nat} {ds es : List PyData} (hn : i < c.n) (hi : S.G[i]? = some (some (En.own ds))) (h : EvS c S te (.d (.list es)) S) (sd : SeqAt.shaped (.list ds) = true) (se : SeqAt.shaped (.list es) = true) :
    EvS c S (tOp (rEqD c.K) (tVar i) te) (.d (.bool (PyData.eqv (.list ds) (.list es)))) S := fun A σ H L Q q => by
  obtain ⟨e1, e2, e3, xs, e4, e5⟩ := L.own i ds hi
  refine ⟨_, e1 hn, h A σ H L _ fun v H1 L1 s1 r1 => ?_⟩
  obtain ⟨_, _, _, ys, a4, a5⟩ := L1.own i ds hi
  exact ⟨.list ds, .list es, (Dt.lst a4 (a5.mono hidP_le)).dp (SeqAt.canLay_of_shaped sd), (Dt.mono hidP_le r1).dp (SeqAt.canLay_of_shaped se), sd, se, q _ H1 L1 s1 (Dt.bl _)⟩
theorem ev_neO {i : Nat} {ds es : List PyData} (hn : i < c.n) (hi : S.G[i]? = some (some (En.own ds))) (h : EvS c S te (.d (.list es)) S) (sd : SeqAt.shaped (.list ds) = true) (se : SeqAt.shaped (.list es) = true) :
    EvS c S (tOp (rNeD c.K) (tVar i) te) (.d (.bool (!PyData.eqv (.list ds) (.list es)))) S := fun A σ H L Q q => by
  obtain ⟨e1, e2, e3, xs, e4, e5⟩ := L.own i ds hi
  refine ⟨_, e1 hn, h A σ H L _ fun v H1 L1 s1 r1 => ?_⟩
  obtain ⟨_, _, _, ys, a4, a5⟩ := L1.own i ds hi
  exact ⟨.list ds, .list es, (Dt.lst a4 (a5.mono hidP_le)).dp (SeqAt.canLay_of_shaped sd), (Dt.mono hidP_le r1).dp (SeqAt.canLay_of_shaped se), sd, se, q _ H1 L1 s1 (Dt.bl _)⟩
/-- an own list handed back -/
theorem run_retO {i : Nat} {ds : List PyData} (hn : i < c.n) (hi : S.G[i]? = some (some (En.own ds))) : RunS c S (tRet (tVar i)) (.rt (.d (.list ds)) S.W) := fun A σ H L D w => by
  obtain ⟨e1, e2, e3, xs, e4, e5⟩ := L.own i ds hi
  refine ⟨_, e1 hn, w _ H L.lf (Dt.lst ?_ (e5.mono (hidP_sub (fun b z => .inl z) fun b o _ q => q)))⟩
  rw [hidP_neg e3]
  exact e4
/-- .kinds, .ties of a Words -/
theorem ev_kinds {E : XK} {ks ts : List Str} (h : EvS c S te (.w ks ts) S1) : EvS c S (tProp c.C (getSp c.C "w_kinds") [] E te) (.d (.tuple (ks.map .str))) S1 := fun A σ H L Q q => h A σ H L _ fun v H1 L1 e1 r1 => by
  obtain ⟨a, dx, vk, vt, rfl, h1, h2, h3⟩ := r1
  exact ⟨a, dx, _, rfl, hidP_le _ _ h1, a, dx, _, vk, rfl, hidP_le _ _ h1, rfl, q _ H1 L1 e1 h2⟩
theorem ev_ties {E : XK} {ks ts : List Str} (h : EvS c S te (.w ks ts) S1) : EvS c S (tProp c.C (getSp c.C "w_ties") [] E te) (.d (.tuple (ts.map .str))) S1 := fun A σ H L Q q => h A σ H L _ fun v H1 L1 e1 r1 => by
  obtain ⟨a, dx, vk, vt, rfl, h1, h2, h3⟩ := r1
  exact ⟨a, dx, _, rfl, hidP_le _ _ h1, a, dx, _, vt, rfl, hidP_le _ _ h1, rfl, q _ H1 L1 e1 h3⟩
end
/-- what the text says of Words and its properties -/
structure WT (P : Program) (w : World) (K : PySem.W.Frag) (mg : Str → Option Value) (base : Heap) (C : Addr) : Prop where
  cl : Cls K C
  gC : mg "Words" = some (.ref C)
  ca : PySem.W.findIn K (.ref C) "__class__" = some (some (.builtin "object.__class__"))
  cn : PySem.W.specialIn K (.builtin "object.__class__") "__get__" = some (some (.builtin "getset_descriptor.__get__"))
  ct : PySem.W.takesIn K (.builtin "object.__class__") = some true
  cm : PySem.W.mroIn K C (.type "object") = some true
  isN : PySem.W.kitOne K (.type "NoneType") (.ref C) = some false
  kinds : ∃ p g fd, PropOf K C "kinds" p g ∧ FnOk P w K mg base (L2.CX P w) 1 g fd ["self"] (getSp C "w_kinds") ∧ L2.Binds K fd ["self"] []
  ties : ∃ p g fd, PropOf K C "ties" p g ∧ FnOk P w K mg base (L2.CX P w) 1 g fd ["self"] (getSp C "w_ties") ∧ L2.Binds K fd ["self"] []
theorem passN {X : Cx} : Passes (L2.CX X.prog X.w) X.nox E0 := fun _ _ _ _ _ _ _ h => by
  obtain ⟨_, _, _, _, _, _, _, _, _, _, _, _, z⟩ := h
  exact z.elim
section
variable {X : Cx} {e : Expr} {ta : TE} {pos : Pos} {C : Addr}
theorem pe_kinds (T : WT X.prog X.w X.K X.mg X.base C) (hr : Room 2 X.A) (he : PE X e ta) (hab : attributeBase e "kinds" X.env (eval e X.env) = eval e X.env := by rfl) : PE X (.Attribute e "kinds" pos) (tProp C (getSp C "w_kinds") [] E0 ta) := by
  obtain ⟨p, g, fd, a, b, c⟩ := T.kinds
  exact pe_prop he T.cl a b hr c .nil passN hab
theorem pe_ties (T : WT X.prog X.w X.K X.mg X.base C) (hr : Room 2 X.A) (he : PE X e ta) (hab : attributeBase e "ties" X.env (eval e X.env) = eval e X.env := by rfl) : PE X (.Attribute e "ties" pos) (tProp C (getSp C "w_ties") [] E0 ta) := by
  obtain ⟨p, g, fd, a, b, c⟩ := T.ties
  exact pe_prop he T.cl a b hr c .nil passN hab
end
section
variable {P : Program} {w : World} {mg : Str → Option Value} {base : Heap} {c : Cn} {S S1 S2 : Stt} {te : TE}
theorem ev_isiW {ks ts : List Str} (T : WT P w c.K mg base c.C) (h : EvS c S te (.w ks ts) S1) : EvS c S (tCB (rIsi c.K) (tCons te (tCons (tC (.ref c.C)) tNil))) (.d (.bool true)) S1 := fun A σ H L Q q => h A σ H L _ fun v H1 L1 e1 r1 => by
  obtain ⟨a, dx, vk, vt, rfl, h1, h2, h3⟩ := r1
  refine ⟨.ref a, .ref c.C, .ref c.C, .ref c.C, true, rfl, .own _, .base (.ins (hidP_le _ _ h1) T.cl T.ca T.cn T.ct T.cm), ?_, q _ H1 L1 e1 (Dt.bl _)⟩
  unfold PySem.W.kitOne
  rw [if_pos (by simp)]
theorem ev_isiNone (T : WT P w c.K mg base c.C) (h : EvS c S te (.d .none) S1) : EvS c S (tCB (rIsi c.K) (tCons te (tCons (tC (.ref c.C)) tNil))) (.d (.bool false)) S1 := fun A σ H L Q q => h A σ H L _ fun v H1 L1 e1 r1 => by
  obtain rfl := Dt.non_inv r1
  exact ⟨.non, .ref c.C, .type "NoneType", .ref c.C, false, rfl, .own _, .base .non, T.isN, q _ H1 L1 e1 (Dt.bl _)⟩
end
/-! ### own exceptions raised -/
structure XT (K : PySem.W.Frag) (mg : Str → Option Value) (x : Str) (D : Addr) : Prop where
  g : mg x = some (.ref D)
  q : PySem.W.excIn K D [.type "ValueError", .type "Exception", .type "BaseException", .type "object"] "ValueError.__new__" = true
  k : PySem.W.keepIn K (.ref D) = true
  b : PySem.W.subIn K (.ref D) (.type "BaseException") = some true
  t : PySem.W.typeIn K (.ref D) = some (.type "type")
section
variable {P : Program} {w : World} {K : PySem.W.Frag} {mg : Str → Option Value} {base : Heap} {N : List Str} {qual : Str} {st : Stmt} {f : Addr} {cdv : Value} {A : Around} {outer : List Env} {s : Shared} {H : Hp} {E : XK}
def tRaise (D : Addr) (E : XK) : TS := fun _ _ H => E (.ref D) none H
theorem ps_raiseT {x m : Str} {D : Addr} {j : Nat} {p p2 pos pos2 : Pos} (T : XT K mg x D) (hg : Gl (fx P w K mg base N qual st f cdv A outer s H E) x := by rfl) (hdb : (x == ("__debug__" : Str)) = false := by decide) :
    PS (fx P w K mg base N qual st f cdv A outer s H E) (.Raise (some (.Call (.Name x p) [.Constant (.str m) j p2] [] pos)) none pos2) (tRaise D E) :=
  ps_raise rfl (takes_of rfl rfl rfl rfl) (pmk_own PySem.F.excBase_ValueError T.q T.g T.k (raises_own T.b T.t) hg hdb)
theorem run_raise {c : Cn} {S : Stt} {D : Addr} {o : Out} (h : ∀ H, Lf c S.W H → E (.ref D) none H) : RunS c S (tRaise D E) o := fun A σ H L Ds w => h H L.lf
end
end Tk

/-! TkPar -/
set_option Elab.async false
set_option linter.all false
set_option autoImplicit false
set_option maxRecDepth 100000
set_option maxHeartbeats 2000000
namespace Tk
open PySem PySem.Spec PyProof.Rows L2
section
variable {c : Cn} {S S1 S2 S3 : Stt} {ta tb te tl : TE} {x y z : Dx} {ds es : List PyData}
theorem Sl.layD {A : Nat → Addr} {σ : L2.St} {H : Hp} {p : Addr} {xs : List V} (L : Sl c A S σ H) (hx : DtA c.K (hid c A S H) xs ds) (hp : H p = none) : Sl c (setA A S.G.length p) (S.gh ds) σ (upd H p (.lst xs)) ∧ Same (hid c A S H) (hid c (setA A S.G.length p) (S.gh ds) (upd H p (.lst xs))) := by
  have h := L.blank.mkOwn (i := S.G.length) (xs := xs) (ds := ds) (by unfold Stt.blank; simp) (by rw [hid_blank]; exact hx) hp
  rw [blank_own, hid_blank] at h
  have hl : σ.set S.G.length (some (.ref p)) = σ := List.set_eq_of_length_le (by rw [L.len]; exact L.le)
  rw [hl] at h
  exact h
/-- a list behind the slots comes into a slot -/
theorem Sl.move {A : Nat → Addr} {σ : L2.St} {H : Hp} {i : Nat} (L : Sl c A (S.gh ds) σ H) (hi : i < c.n) (hle : c.n ≤ S.G.length) : Sl c (setA A i (A S.G.length)) (S.own i ds) (σ.set i (some (.ref (A S.G.length)))) H ∧ Same (hid c A (S.gh ds) H) (hid c (setA A i (A S.G.length)) (S.own i ds) H) := by
  have hil : i < S.G.length := Nat.lt_of_lt_of_le hi hle
  have up : ∀ {j : Nat} {e : En}, S.G[j]? = some (some e) → (S.gh ds).G[j]? = some (some e) := fun {j e} h => by
    unfold Stt.gh
    rw [List.getElem?_append_left (List.getElem?_eq_some_iff.mp h).1]
    exact h
  have at_ : (S.gh ds).G[S.G.length]? = some (some (En.own ds)) := by
    unfold Stt.gh
    simp
  have old : ∀ (j : Nat) (e : En), ¬ i = j → (S.own i ds).G[j]? = some (some e) → S.G[j]? = some (some e) := fun j e hj q => by
    rw [Stt.own, List.getElem?_set_ne hj] at q
    exact q
  have ow : ∀ b, (S.own i ds).owns (setA A i (A S.G.length)) b → (S.gh ds).owns A b := fun b ⟨j, es, q, z⟩ => by
    by_cases hj : i = j
    · subst hj
      rw [setA_same] at z
      exact ⟨_, ds, at_, z⟩
    · rw [setA_ne hj] at z
      exact ⟨j, es, up (old j _ hj q), z⟩
  have hs : Same (hid c A (S.gh ds) H) (hid c (setA A i (A S.G.length)) (S.own i ds) H) := hidP_sub (fun b z => z.imp id (ow b)) fun b o _ q => q
  have lt : ∀ {j : Nat} {e : En}, S.G[j]? = some (some e) → j ≠ S.G.length := fun q => Nat.ne_of_lt (List.getElem?_eq_some_iff.mp q).1
  obtain ⟨_, g2, g3, xs, g4, g5⟩ := L.own _ ds at_
  refine ⟨⟨by rw [List.length_set]; exact L.len, by rw [Stt.own, List.length_set]; exact hle, L.sm, L.al, L.wk, L.wst, fun j es q => ?_, fun j k es fs q1 q2 e => ?_, fun j y hn q => ?_⟩, hs⟩
  · by_cases hj : i = j
    · subst hj
      rw [Stt.own, List.getElem?_set_self hil] at q
      cases q
      exact ⟨fun hn => by rw [List.getElem?_set_self (by rw [L.len]; exact hn), setA_same], by rw [setA_same]; exact g2, by rw [setA_same]; exact g3, xs, by rw [setA_same]; exact g4, g5.mono hs⟩
    · obtain ⟨a1, a2, a3, ys, a4, a5⟩ := L.own j es (up (old j _ hj q))
      exact ⟨fun hn => by rw [List.getElem?_set_ne hj, setA_ne hj]; exact a1 hn, by rw [setA_ne hj]; exact a2, by rw [setA_ne hj]; exact a3, ys, by rw [setA_ne hj]; exact a4, a5.mono hs⟩
  · by_cases hj : i = j
    · by_cases hk : i = k
      · rw [← hj, ← hk]
      · subst hj
        rw [setA_same, setA_ne hk] at e
        exact absurd (L.inj _ k ds fs at_ (up (old k _ hk q2)) e).symm (lt (old k _ hk q2))
    · by_cases hk : i = k
      · subst hk
        rw [setA_same, setA_ne hj] at e
        exact absurd (L.inj j _ es ds (up (old j _ hj q1)) at_ e) (lt (old j _ hj q1))
      · rw [setA_ne hj, setA_ne hk] at e
        exact L.inj j k es fs (up (old j _ hj q1)) (up (old k _ hk q2)) e
  · by_cases hj : i = j
    · subst hj
      rw [Stt.own, List.getElem?_set_self hil] at q
      cases q
    · obtain ⟨v, a1, a2⟩ := L.val j y hn (up (old j _ hj q))
      exact ⟨v, by rw [List.getElem?_set_ne hj]; exact a1, a2.mono hs⟩
/-- a, b = x, y -/
theorem run_parVV {i j : Nat} (h1 : EvS c S ta x S1) (h2 : EvS c S1 tb y S2) : RunS c S (tPar i j (tCons ta (tCons tb tNil))) (.nx ((S2.put i x).put j y)) := fun A σ H L D w => h1 A σ H L _ fun v H1 L1 e1 r1 => h2 A σ H1 L1 _ fun u H2 L2 e2 r2 => by
  obtain ⟨L3, s3⟩ := L2.put (i := i) (r1.mono e2)
  obtain ⟨L4, s4⟩ := L3.put (i := j) (r2.mono s3)
  exact ⟨v, u, rfl, w A _ H2 L4 (((e1.trans e2).trans s3).trans s4)⟩
/-- a, b = [..], y -/
theorem run_parOV {i j : Nat} (h1 : EvO c S ta ds S1) (h2 : EvS c (S1.gh ds) tb y (S1.gh ds)) (hi : i < c.n) (hle : c.n ≤ S1.G.length) : RunS c S (tPar i j (tCons ta (tCons tb tNil))) (.nx ((S1.own i ds).put j y)) := fun A σ H L D w => h1 A σ H L _ fun p xs H1 L1 e1 d1 hp => by
  obtain ⟨L2, e2⟩ := L1.layD d1 hp
  refine h2 _ σ _ L2 _ fun u H2 L3 e3 r3 => ?_
  obtain ⟨L4, s4⟩ := L3.move hi hle
  rw [setA_same] at L4 s4
  obtain ⟨L5, s5⟩ := L4.put (i := j) (r3.mono s4)
  exact ⟨.ref p, u, rfl, w _ _ H2 L5 ((((e1.trans e2).trans e3).trans s4).trans s5)⟩
/-- a, b = x, [..] -/
theorem run_parVO {i j : Nat} (h1 : EvS c S ta x S1) (h2 : EvO c S1 tb es S2) (hj : j < c.n) (hij : i ≠ j) : RunS c S (tPar i j (tCons ta (tCons tb tNil))) (.nx ((S2.put i x).own j es)) := fun A σ H L D w => h1 A σ H L _ fun v H1 L1 e1 r1 => h2 A σ H1 L1 _ fun p xs H2 L2 e2 d2 hp => by
  obtain ⟨L3, s3⟩ := L2.put (i := i) (r1.mono e2)
  obtain ⟨L4, s4⟩ := L3.mkOwn (i := j) (by have := L3.le; omega) (d2.mono s3) hp
  exact ⟨v, .ref p, rfl, w _ _ _ L4 (((e1.trans e2).trans s3).trans s4)⟩
/-- a, b = [..], [..] -/
theorem run_parOO {i j : Nat} (h1 : EvO c S ta ds S1) (h2 : EvO c (S1.gh ds) tb es (S1.gh ds)) (hi : i < c.n) (hj : j < c.n) (hij : i ≠ j) (hle : c.n ≤ S1.G.length) : RunS c S (tPar i j (tCons ta (tCons tb tNil))) (.nx ((S1.own i ds).own j es)) := fun A σ H L D w => h1 A σ H L _ fun p xs H1 L1 e1 d1 hp => by
  obtain ⟨L2, e2⟩ := L1.layD d1 hp
  refine h2 _ σ _ L2 _ fun p2 ys H2 L3 e3 d3 hp2 => ?_
  obtain ⟨L4, s4⟩ := L3.move hi hle
  rw [setA_same] at L4 s4
  obtain ⟨L5, s5⟩ := L4.mkOwn (i := j) (by have := L4.le; omega) (d3.mono s4) hp2
  exact ⟨.ref p, .ref p2, rfl, w _ _ _ L5 ((((e1.trans e2).trans e3).trans s4).trans s5)⟩
end
end Tk

/-! TkQ -/
set_option Elab.async false
set_option linter.all false
set_option autoImplicit false
set_option maxRecDepth 100000
set_option maxHeartbeats 2000000
namespace Tk
open PySem PySem.Spec PyProof.Rows L2
theorem pown {P : Program} {w : World} {K : PySem.W.Frag} {mg : Str → Option Value} {base : Heap} {N : List Str} {qual : Str} {st : Stmt} {f : Addr} {cdv : Value} {A : Around} {outer : List Env} {s : Shared} {H : Hp} {E : XK} :
    PassesOwn (model (fx P w K mg base N qual st f cdv A outer s H E).prog (fx P w K mg base N qual st f cdv A outer s H E).w) (fx P w K mg base N qual st f cdv A outer s H E).A (fx P w K mg base N qual st f cdv A outer s H E).env (fx P w K mg base N qual st f cdv A outer s H E).xe := passes_of (X := fx P w K mg base N qual st f cdv A outer s H E) rfl
section
variable {c : Cn} {S S1 S2 S3 : Stt} {ta tb te tl : TE} {x y z : Dx} {t u : TT} {ts tu : TS} {o : Out}
/-- one turn of a while: I what holds ahead of a turn with at most n more, G what holds behind the loop, o how the def goes on or ends -/
inductive Wh (c : Cn) (tc : TT) (tb : TS) (I : Nat → Stt → Prop) (G : Stt → Prop) (o : Out) (n : Nat) (S : Stt) : Prop
  | done {S1 : Stt} : EvB c S tc false S1 → G S1 → Wh c tc tb I G o n S
  | step {S1 S2 : Stt} (m : Nat) : EvB c S tc true S1 → RunS c S1 tb (.nx S2) → m < n → I m S2 → Wh c tc tb I G o n S
  | cont {S1 S2 : Stt} (m : Nat) : EvB c S tc true S1 → RunS c S1 tb (.ct S2) → m < n → I m S2 → Wh c tc tb I G o n S
  | ret {S1 : Stt} {z : Dx} {W : Hp → Prop} : EvB c S tc true S1 → RunS c S1 tb (.rt z W) → o = .rt z W → Wh c tc tb I G o n S
  | brk {S1 S2 : Stt} : EvB c S tc true S1 → RunS c S1 tb (.bk S2) → G S2 → Wh c tc tb I G o n S
theorem lpw_mono {tc : TT} {tb : TS} {n m : Nat} (h : LpW c tc tb n S o) : n ≤ m → LpW c tc tb m S o := by
  induction h generalizing m with
  | done a => exact fun _ => .done a
  | step a b _ ih =>
    intro l
    obtain ⟨k, rfl⟩ : ∃ k, m = k + 1 := ⟨m - 1, by omega⟩
    exact .step a b (ih (by omega))
  | cont a b _ ih =>
    intro l
    obtain ⟨k, rfl⟩ : ∃ k, m = k + 1 := ⟨m - 1, by omega⟩
    exact .cont a b (ih (by omega))
  | ret a b => exact fun _ => .ret a b
  | brk a b => exact fun _ => .brk a b
theorem run_whileQ {tc : TT} {tb : TS} {n : Nat} (I : Nat → Stt → Prop) (G : Stt → Prop) (hI : I n S) (step : ∀ n S, I n S → Wh c tc tb I G o n S) (fin : ∀ S, G S → RunS c S tu o) : RunS c S (tSeq (tWhile tc tb) tu) o := by
  have key : ∀ n S, I n S → (∃ m S', G S' ∧ LpW c tc tb m S (.nx S')) ∨ ∃ m z W, o = .rt z W ∧ LpW c tc tb m S (.rt z W) := by
    intro n
    induction n using Nat.strongRecOn with
    | _ n ih =>
      intro S hS
      cases step n S hS with
      | done a g => exact .inl ⟨0, _, g, .done a⟩
      | step m a b l i =>
        rcases ih m l _ i with ⟨k, S', g, w⟩ | ⟨k, z, W, e, w⟩
        · exact .inl ⟨k + 1, S', g, .step a b w⟩
        · exact .inr ⟨k + 1, z, W, e, .step a b w⟩
      | cont m a b l i =>
        rcases ih m l _ i with ⟨k, S', g, w⟩ | ⟨k, z, W, e, w⟩
        · exact .inl ⟨k + 1, S', g, .cont a b w⟩
        · exact .inr ⟨k + 1, z, W, e, .cont a b w⟩
      | ret a b e => exact .inr ⟨0, _, _, e, .ret a b⟩
      | brk a b g => exact .inl ⟨0, _, g, .brk a b⟩
  rcases key n S hI with ⟨m, S', g, w⟩ | ⟨m, z, W, e, w⟩
  · exact run_seq (run_while w) (fin S' g)
  · rw [e]
    exact run_stop (run_while w) rfl
/-- one turn of a for -/
inductive Fo (c : Cn) (g : TG) (tb : TS) (I : List Dx → Stt → Prop) (G : Stt → Prop) (o : Out) (S : Stt) (x : Dx) (r : List Dx) : Prop
  | step {S1 S2 : Stt} : AsgS c S g x S1 → RunS c S1 tb (.nx S2) → I r S2 → Fo c g tb I G o S x r
  | cont {S1 S2 : Stt} : AsgS c S g x S1 → RunS c S1 tb (.ct S2) → I r S2 → Fo c g tb I G o S x r
  | ret {S1 : Stt} {z : Dx} {W : Hp → Prop} : AsgS c S g x S1 → RunS c S1 tb (.rt z W) → o = .rt z W → Fo c g tb I G o S x r
  | brk {S1 S2 : Stt} : AsgS c S g x S1 → RunS c S1 tb (.bk S2) → G S2 → Fo c g tb I G o S x r
theorem run_forQ {g : TG} {wi : TI} {xs : List Dx} {tb : TS} (I : List Dx → Stt → Prop) (G : Stt → Prop) (hi : EvI c S wi xs S1) (hI : I xs S1) (step : ∀ x r S, I (x :: r) S → Fo c g tb I G o S x r) (done : ∀ S, I [] S → G S) (fin : ∀ S, G S → RunS c S tu o) : RunS c S (tSeq (tFor wi g tb) tu) o := by
  have key : ∀ xs S, I xs S → (∃ S', G S' ∧ LpF c g tb S xs (.nx S')) ∨ ∃ z W, o = .rt z W ∧ LpF c g tb S xs (.rt z W) := by
    intro xs
    induction xs with
    | nil => exact fun S h => .inl ⟨S, done S h, .nil⟩
    | cons x r ih =>
      intro S hS
      cases step x r S hS with
      | step a b i =>
        rcases ih _ i with ⟨S', g, w⟩ | ⟨z, W, e, w⟩
        · exact .inl ⟨S', g, .step a b w⟩
        · exact .inr ⟨z, W, e, .step a b w⟩
      | cont a b i =>
        rcases ih _ i with ⟨S', g, w⟩ | ⟨z, W, e, w⟩
        · exact .inl ⟨S', g, .cont a b w⟩
        · exact .inr ⟨z, W, e, .cont a b w⟩
      | ret a b e => exact .inr ⟨_, _, e, .ret a b⟩
      | brk a b g => exact .inl ⟨_, g, .brk a b⟩
  rcases key xs S1 hI with ⟨S', g, w⟩ | ⟨z, W, e, w⟩
  · exact run_seq (run_for hi w) (fin S' g)
  · rw [e]
    exact run_stop (run_for hi w) rfl
def isNon : PyData → Bool
  | .none => true
  | _ => false
theorem rv_isN {d : PyData} : RvS c S rIsN (.d d) (.d .none) (.d (.bool (isNon d))) := fun A σ H L v u rv ru Q q => by
  refine ⟨Dt.non_inv ru, ?_⟩
  have rv' : Dt c.K (hid c A S H) v d := rv
  cases rv' with
  | non => exact q _ H (Same.refl _) (Dt.bl _)
  | bl b => exact q _ H (Same.refl _) (Dt.bl _)
  | int b => exact q _ H (Same.refl _) (Dt.bl _)
  | str b => exact q _ H (Same.refl _) (Dt.bl _)
  | lst _ _ => exact q _ H (Same.refl _) (Dt.bl _)
  | exc _ => exact q _ H (Same.refl _) (Dt.bl _)
  | tup _ _ => exact q _ H (Same.refl _) (Dt.bl _)
theorem rv_notN {d : PyData} : RvS c S rNotN (.d d) (.d .none) (.d (.bool (!isNon d))) := fun A σ H L v u rv ru Q q => by
  refine ⟨Dt.non_inv ru, ?_⟩
  have rv' : Dt c.K (hid c A S H) v d := rv
  cases rv' with
  | non => exact q _ H (Same.refl _) (Dt.bl _)
  | bl b => exact q _ H (Same.refl _) (Dt.bl _)
  | int b => exact q _ H (Same.refl _) (Dt.bl _)
  | str b => exact q _ H (Same.refl _) (Dt.bl _)
  | lst _ _ => exact q _ H (Same.refl _) (Dt.bl _)
  | exc _ => exact q _ H (Same.refl _) (Dt.bl _)
  | tup _ _ => exact q _ H (Same.refl _) (Dt.bl _)
end
end Tk

/-! TkS -/
set_option Elab.async false
set_option linter.all false
set_option autoImplicit false
set_option maxRecDepth 100000
set_option maxHeartbeats 2000000
namespace Tk
open PySem PySem.Spec PyProof.Rows L2
/-! ### the facts of a def at the module -/
structure Df (K : PySem.W.Frag) (mg : Str → Option Value) (x : Str) (st : Stmt) (ps : List Str) (f : Addr) (fd : FuncData) : Prop where
  F : Fun K x x st f fd
  g : mg x = some (.ref f)
  b : L2.Binds K fd ps []
theorem Df.cal {P : Program} {w : World} {K : PySem.W.Frag} {mg : Str → Option Value} {base : Heap} {x : Str} {st : Stmt} {ps : List Str} {f : Addr} {fd : FuncData} {k : Nat} {sp : Sp} (D : Df K mg x st ps f fd) (h : FnOk P w K mg base (L2.CX P w) k f fd ps sp) : Cal P w K mg base x k ps sp :=
  ⟨f, fd, D.g, D.F.kp, h, D.b⟩
section
variable {c : Cn} {S S1 S2 S3 : Stt} {ta tb te tl : TE} {x y z : Dx} {t u : TT} {ts tu : TS} {o : Out}
theorem eb_yes : EvB c S tYes true S := fun A σ H L Q q => q H L (Same.refl _)
theorem lpc_map {α : Type} {i : Nat} {G : List (Option En)} {W : Hp → Prop} (g : α → Dx) (f : α → PyData) : ∀ (l : List α) (acc : List PyData), (∀ acc, ∀ a ∈ l, EvS c (Sb W (G.set i (some (.x (g a)))) acc) te (.d (f a)) (Sb W (G.set i (some (.x (g a)))) acc)) → LpC c i G tYes te W acc (l.map g) W (acc ++ l.map f)
  | [], acc, _ => by
    rw [List.map_nil, List.map_nil, List.append_nil]
    exact .nil
  | x :: r, acc, h => by
    have ih := lpc_map g f r (acc ++ [f x]) fun a y hy => h a y (List.mem_cons_of_mem _ hy)
    rw [List.append_assoc] at ih
    exact .yes eb_yes (h acc x (by simp)) ih
/-- [f(x) for x in xs] -/
theorem ev_lcMap {α : Type} {wi : TI} {i : Nat} {W : Hp → Prop} {G : List (Option En)} (g : α → Dx) (f : α → PyData) (l : List α) (hn : i < c.n) (hG : G[i]? = some none) (hi : EvI c S wi (l.map g) ⟨W, G⟩) (hz : l.length ≤ 100000)
    (h : ∀ acc, ∀ a ∈ l, EvS c (Sb W (G.set i (some (.x (g a)))) acc) te (.d (f a)) (Sb W (G.set i (some (.x (g a)))) acc)) : EvS c S (tLc wi (gName i) tYes te [i]) (.d (.list (l.map f))) ⟨W, G⟩ :=
  ev_lc hn hG hi (by rw [List.length_map]; exact hz) (by simpa using lpc_map g f l [] h)
/-- sep.join(..) -/
def rJoin (K : PySem.W.Frag) : V → List V → Hp → VK → Prop := fun x xs H Q => ∃ a p, ∃ ys : List Str, x = .str a ∧ xs = [.ref p] ∧ (SqL K H p (ys.map V.str) ∨ SqT K H p (ys.map V.str)) ∧ (ys.map (·.length)).sum + ys.length * a.length ≤ 16777216 ∧ Q (.str (Txt.join a ys)) H
theorem mt_joinT {X : Cx} : MtR X "str.join" (rJoin X.K) := mt_join
theorem txt_join (a : Str) (ys : List Str) : Txt.join a ys = Str.join a ys := StrLaws.glued_eq_join a ys
theorem ev_join {a : Str} {ys : List Str} (h : EvS c S ta (.d (.str a)) S1) (hl : EvS c S1 te (.d (.list (ys.map .str))) S2) (hz : (ys.map (·.length)).sum + ys.length * a.length ≤ 16777216) : EvS c S (tBM c.K "str" (rJoin c.K) ta (tCons te tNil)) (.d (.str (Str.join a ys))) S2 := fun A σ H L Q q => h A σ H L _ fun v H1 L1 e1 r1 => by
  obtain rfl := Dt.str_inv r1
  refine ⟨rfl, hl A σ H1 L1 _ fun u H2 L2 e2 r2 => ?_⟩
  obtain ⟨p, vs, rfl, h1, h2⟩ := Dt.lst_inv r2
  obtain rfl := h2.strs_inv
  refine ⟨a, p, ys, rfl, rfl, .inl (.inl (.inl (hidP_le _ _ h1))), hz, ?_⟩
  rw [txt_join]
  exact q _ H2 L2 (e1.trans e2) (Dt.str _)
theorem len_app (a b : Str) : (a ++ b).length = a.length + b.length := Array.size_append
theorem str_ext {a b : Str} (h : a.cps.toList = b.cps.toList) : a = b := by
  cases a with
  | mk a =>
    cases b with
    | mk b =>
      rw [show a = b from Array.toList_inj.mp h]
theorem app_list (a b : Str) : (a ++ b).cps.toList = a.cps.toList ++ b.cps.toList := Array.toList_append
end
end Tk

/-! TkM -/
set_option Elab.async false
set_option linter.all false
set_option autoImplicit false
set_option maxRecDepth 100000
set_option maxHeartbeats 2000000
namespace Tk
open PySem PySem.Spec PyProof.Rows L2
/-! ### o.f as a target -/
def gFld (K : PySem.W.Frag) (ta : TE) (f : Str) : TG := fun y σ H Q => ta σ H fun x H2 => ∃ a C dx fs, x = .ref a ∧ H2 a = some (.ins C dx fs) ∧ Cls K C ∧ NoAttr K C f ∧ fs.length < 1000 ∧ Q σ (upd H2 a (.ins C dx (putF f y fs)))
theorem pg_fld {X : Cx} {o : Expr} {f : Str} {ta : TE} {pos : Pos} (ha : PE X o ta) : PG X (.Attribute o f pos) (gFld X.K ta f) := by
  refine ⟨fun pins s σ H y u Q I ry h => ?_⟩
  rw [assign_Attribute]
  have e1 : RelV y u := ry
  refine wpAny_bind (wpAny_holding (thn (ha.run pins s σ H _ I h) fun ov s2 ⟨x, H2, I2, rx, a, C, dx, fs, ex, ea, c, n, l, q2⟩ => ?_))
  subst ex
  obtain rfl : ov = Value.ref a := rx
  refine wpAny_bind (wpAny_standAt (wpAny_bind (wpAny_holding (setattr_ok I2 ea c n l ry fun s3 I3 => ?_))))
  intro Γ p hΓ
  rw [Sem.wp_release]
  exact ⟨σ, _, I3, q2⟩
/-! ### a def's start, whatever is hidden -/
theorem sl_start {K : PySem.W.Frag} {C : Addr} {N : List Str} {vs : List V} {xs : List Dx} {H : Hp} {R Mt : Addr → Prop} {W : Hp → Prop} (mp : ∀ b, Mt b → R b) (h2 : RxA K C (hidP R H) vs xs) (h1 : ∀ b, R b → H b ≠ none) (hl : xs.length ≤ N.length)
    (hW : W H) (hw : ∀ H H' : Hp, Kp R H H' → W H → W H') : Sl ⟨K, C, H, R, Mt, mp, N.length⟩ (fun _ => 0) ⟨W, (S0 N.length xs).G⟩ (L2.start N vs) H := by
  have no : ∀ b, ¬ Stt.owns ⟨W, (S0 N.length xs).G⟩ (fun _ => 0) b := fun b ⟨i, ds, e, _⟩ => by
    obtain ⟨x, q, _⟩ := s0_get e
    cases q
  refine ⟨?_, ?_, fun b o _ e => e, h1, hW, hw, fun i ds e => ?_, fun i j ds es e _ _ => ?_, fun i x _ e => ?_⟩
  · unfold L2.start
    rw [List.length_append, List.length_map, List.length_replicate, h2.len]
    show xs.length + (N.length - xs.length) = N.length
    omega
  · show N.length ≤ (S0 N.length xs).G.length
    unfold S0
    rw [List.length_append, List.length_map, List.length_replicate]
    omega
  · obtain ⟨x, q, _⟩ := s0_get e
    cases q
  · obtain ⟨x, q, _⟩ := s0_get e
    cases q
  · obtain ⟨x', q, hx⟩ := s0_get e
    cases q
    obtain ⟨v, v1, v2⟩ := h2.get hx
    refine ⟨v, ?_, v2.mono (hidP_sub (fun b z => z.elim id fun z => absurd z (no b)) fun b o _ q => q)⟩
    unfold L2.start
    rw [List.getElem?_append_left (by rw [List.length_map]; exact (List.getElem?_eq_some_iff.mp v1).1), List.getElem?_map, v1]
    rfl
/-- what is hidden changes -/
theorem Sl.mut {c : Cn} {A : Nat → Addr} {S : Stt} {σ : L2.St} {H H' : Hp} {W' : Hp → Prop} (L : Sl c A S σ H) (hs : ∀ b o, ¬ c.Mt b → H b = some o → H' b = some o) (hal : ∀ b, c.Mt b → H' b ≠ none) (hW : W' H') (hw : ∀ H H' : Hp, Kp c.P H H' → W' H → W' H') :
    Sl c A ⟨W', S.G⟩ σ H' ∧ Same (hid c A S H) (hid c A ⟨W', S.G⟩ H') := by
  have hh : Same (hid c A S H) (hid c A ⟨W', S.G⟩ H') := hidP_sub (fun b z => z) fun b o n q => hs b o (fun m => n (.inl (c.mp b m))) q
  refine ⟨⟨L.len, L.le, fun b o m q => hs b o m (L.sm b o m q), fun b hb => ?_, hW, hw, fun i ds q => ?_, L.inj, fun i x hi q => ?_⟩, hh⟩
  · by_cases m : c.Mt b
    · exact hal b m
    · intro z
      cases e : H b with
      | none => exact L.al b hb e
      | some o =>
        rw [hs b o m e] at z
        cases z
  · obtain ⟨e1, e2, e3, xs, e4, e5⟩ := L.own i ds q
    exact ⟨e1, e2, e3, xs, hs _ _ (fun m => e3 (c.mp _ m)) e4, e5.mono hh⟩
  · obtain ⟨v, e1, e2⟩ := L.val i x hi q
    exact ⟨v, e1, e2.mono hh⟩
/-- the hidden told otherwise -/
theorem Sl.wk' {c : Cn} {A : Nat → Addr} {S : Stt} {σ : L2.St} {H : Hp} {W' : Hp → Prop} (L : Sl c A S σ H) (hW : W' H) (hw : ∀ H H' : Hp, Kp c.P H H' → W' H → W' H') : Sl c A ⟨W', S.G⟩ σ H :=
  ⟨L.len, L.le, L.sm, L.al, hW, hw, L.own, L.inj, L.val⟩
end Tk

/-! TkSet -/
set_option Elab.async false
set_option linter.all false
set_option autoImplicit false
set_option maxRecDepth 100000
set_option maxHeartbeats 3200000
/-! len(set(xs)), xs a list of unlike texts -/
namespace Tk
open PySem PySem.Spec PyProof.Rows L2
/-- the first i texts make up the set -/
def Made (P : Program) (w : World) (h : Heap) (z : Addr) (xs : List Str) (i : Nat) : Prop := h.SetOf (PySem.strKind P w) z (fun y => decide (y ∈ xs.take i)) i
theorem made_at {P : Program} {w : World} {h h2 : Heap} {z : Addr} {xs : List Str} {i : Nat} (m : Made P w h z xs i) (k : ∀ o, h.get? z = some o → h2.get? z = some o) : Made P w h2 z xs i := by
  obtain ⟨o, e1, e2, e3, ho, r⟩ := m
  exact ⟨o, e1, e2, e3, k o ho, r⟩
section
variable {P : Program} {w : World} {A : Around} {Rs : Result → Shared → Prop} {it : Addr} {fo wo : List Addr} {Gr : Array GenState → Array GenState → Prop} {N : Nat} {Pv : Nat → Value → Prop} {Sv : Nat → Shared → Prop}
theorem fill_texts (T : WalksS P w A.in1 it fo wo Gr N Pv Sv) {z : Addr} (hz : z ∉ fo) {xs : List Str} (hx : xs.length = N) (hu : xs.Nodup) (hb : N + 1 < scanBound) (hv : ∀ i v, Pv i v → ∃ t, v = .str (xs.getD i Str.empty) t) :
    ∀ (left i : Nat) (s : Shared), i + left = N → Sv i s → Made P w s.heap z xs i → (∀ s2, Moved (z :: wo) Gr s s2 → Made P w s2.heap z xs N → Rs (.ok (.ret .none)) s2) →
      codeAny (model P w) A (.builtin "set.update.loop" ⟨[.ref z, .ref it], []⟩) Rs s := by
  have hzw : z ∉ wo := fun m => hz (T.sub _ m)
  have up : ∀ b ∈ wo, b ∈ z :: wo := fun b m => List.mem_cons_of_mem _ m
  intro left
  induction left with
  | zero =>
    intro i s hi hs hm done
    have hiN : i = N := hi
    subst hiN
    refine codeAny_builtin PyProof.Rows.F.entry_set_update_loop ?_
    rw [Around.under_plainId PyProof.Rows.F.plain_set_update_loop _]
    change wpAny _ A.in1 (pyNext (.ref it) >>= _) _ _ s
    refine wpAny_bind (T.done s _ _ hs fun s2 mv => ?_)
    change wpAny _ A.in1 (ret Value.none) _ _ s2
    exact wpAny_pure (done s2 (mv.mono up) (made_at hm fun o e => mv.heap z o hzw e))
  | succ left ih =>
    intro i s hi hs hm done
    have hlt : i < N := by omega
    refine codeAny_builtin PyProof.Rows.F.entry_set_update_loop ?_
    rw [Around.under_plainId PyProof.Rows.F.plain_set_update_loop _]
    change wpAny _ A.in1 (pyNext (.ref it) >>= _) _ _ s
    refine wpAny_bind (T.item i s _ _ hlt hs fun v s2 pv sv mv => ?_)
    obtain ⟨t, rfl⟩ := hv i v pv
    have hm2 : Made P w s2.heap z xs i := made_at hm fun o e => mv.heap z o hzw e
    change wpAny _ A.in1 (holding [Value.str (xs.getD i Str.empty) t] (setAdd z (.str (xs.getD i Str.empty) t)) >>= _) _ _ s2
    refine wpAny_bind (wpAny_holding ?_)
    unfold setAdd
    refine wpAny_holding (wpAny_bind ((PySem.strKind P w).pyHash (k := xs.getD i Str.empty) (strKind_is _ _ _ _) ?_))
    have hil : i < xs.length := by omega
    have hg : xs.getD i Str.empty = xs[i] := by rw [List.getD_eq_getElem?_getD, List.getElem?_eq_getElem hil]; rfl
    have new : xs.getD i Str.empty ∉ xs.take i := fun m => by
      rw [hg] at m
      obtain ⟨j, hj, e⟩ := List.getElem_of_mem m
      rw [List.getElem_take] at e
      rw [List.length_take] at hj
      exact List.pairwise_iff_getElem.mp hu j i (by omega) hil (by omega) e
    refine wpAny_setAddHashed_of (knd := PySem.strKind P w) (s := { s2 with toks := s2.toks + 1 }) (strKind_is _ _ _ _) rfl hm2 (by omega) fun h2 sb grown => ?_
    have hm3 : Made P w h2 z xs (i + 1) := by
      refine SetOf_congr grown (fun y => ?_) (by rw [decide_eq_false new]; rfl)
      have et : xs.take (i + 1) = xs.take i ++ [xs[i]] := by rw [List.take_succ, List.getElem?_eq_getElem hil]; rfl
      rw [et, hg, ← Bool.decide_or]
      exact decide_eq_decide.mpr (by rw [List.mem_append, List.mem_singleton])
    refine wpAny_pure ⟨plainId_quiet PyProof.Rows.F.plain_set_update_loop _, ih (i + 1) _ (by omega) (T.frame _ s2 _ _ sv (Nat.le_succ _) fun b m o e => ?_) hm3 fun s3 mv3 hm4 => ?_⟩
    · exact (sb.2 b fun q => hz (q ▸ m)).trans e
    · exact done s3 (Moved.trans T.gtrans ((mv.mono up).then_heap (Nat.le_succ _) fun b o nb e => (sb.2 b fun q => nb (q ▸ List.mem_cons_self)).trans e) mv3) hm4
end
section
variable {P : Program} {w : World} {A : Around} {E : Value → Shared → Prop} {s : Shared}
/-- an empty set -/
abbrev bare (led : Bool) : Obj := { cls := .type "set", dict := none, data := .set #[] 0 (.fresh 0 0 led) }
theorem init_texts {p : Addr} {us : Array Value} {xs : List Str} {led : Bool} (hA : A.handled = none) (hp : s.heap.IsList p us) (hx : StrsAre us.toList xs) (hu : xs.Nodup) (hb : us.size + 1 < scanBound) {Q : Value → Shared → Prop}
    (hQ : ∀ (h2 : Heap) (k : Nat), Made P w h2 s.heap.objs.size xs us.size → (∀ b o, b < s.heap.objs.size → s.heap.get? b = some o → h2.get? b = some o) → Q .none { s with heap := h2, toks := k }) :
    codeAny (model P w) A (.call (.builtin "set.__init__") ⟨[.ref s.heap.objs.size, .ref p], []⟩) (wants Q E) { s with heap := s.heap.push (bare led) } := by
  have h0 : (s.heap.push (bare led)).get? s.heap.objs.size = some (bare led) := Heap.get?_push_size _ rfl
  have hT : Shared.TypeIs { s with heap := s.heap.push (bare led) } (.ref s.heap.objs.size) "set" := ⟨_, h0, rfl⟩
  refine codeAny_call_builtin PySem.F.called_set.init.plain PySem.F.entry_set_init (check_set_init_1 hT ?_)
  obtain ⟨⟨c1, d1, a1, sl1⟩, ho, hc, m, hd⟩ := hp
  simp only at hc hd
  subst hc
  subst hd
  have ho1 : (s.heap.push (bare led)).get? p = some { cls := .type "list", dict := d1, data := .seq us m, slots := sl1 } := Heap.get?_push_of_some _ ho
  have q1 := PySem.F.sub_list_set
  have q2 := PySem.F.sub_list_frozenset
  have q3 : (Value.type "list" == Value.type "dict") = false := by decide
  have hL : (s.heap.push (bare led)).IsList p us := ⟨_, ho1, rfl, m, rfl⟩
  unfold Builtin.«set.__init__» noKeywords Builtin.Frozenset.updateFrom
  generalize hit : pyIter = IT
  wp_walk
  subst hit
  refine wpAny_pyIter_list hL (wpAny_bind (wpAny_runValue ?_))
  have hps : p < s.heap.objs.size := Heap.lt_size ho
  have szp : (s.heap.push (bare led)).objs.size = s.heap.objs.size + 1 := Heap.size_push ..
  have hA3 : A.in1.in1.handled = none := by simp [hA]
  have np : p ≠ (s.heap.push (bare led)).objs.size := by rw [szp]; exact Nat.ne_of_lt (Nat.lt_succ_of_lt hps)
  have nz : s.heap.objs.size ∉ [(s.heap.push (bare led)).objs.size, p] := by
    rw [szp]
    simp only [List.mem_cons, List.not_mem_nil, or_false, not_or]
    exact ⟨Nat.ne_of_lt (Nat.lt_succ_self _), Nat.ne_of_gt hps⟩
  have hxs : xs.length = us.size := by rw [← StrsAre.len_eq hx, Array.length_toList]
  refine fill_texts ((Walks.list hA3 _ p np us).toS) nz hxs hu hb (fun i v e => SS.strs_at hx i v (by rw [Array.getElem?_toList]; exact e)) us.size 0 _ (Nat.zero_add _) ⟨⟨_, Heap.get?_push_size _ rfl, rfl, rfl⟩, hL.push _⟩ ?_ ?_
  · exact SetOf_congr ((setObjOf_fresh (knd := PySem.strKind P w) led).setOf (Heap.get?_push_of_some _ h0) (by unfold scanBound; omega)) (fun _ => rfl) rfl
  · rintro ⟨h2, g2, d2, k2, o2⟩ mv hm
    obtain rfl : g2 = s.gens := mv.gens
    obtain rfl : d2 = s.drawn := mv.drawn
    obtain rfl : o2 = s.os := mv.os
    refine wpAny_pure (wpAny_pure (hQ h2 k2 hm fun b o hlt e => mv.heap b o ?_ (Heap.get?_push_of_some _ (Heap.get?_push_of_some _ e))))
    rw [szp]
    simp only [List.mem_cons, List.not_mem_nil, or_false, not_or]
    exact ⟨Nat.ne_of_lt hlt, Nat.ne_of_lt (Nat.lt_succ_of_lt hlt)⟩
/-- set(l) -/
theorem set_texts {p : Addr} {us : Array Value} {xs : List Str} (hA : A.handled = none) (hp : s.heap.IsList p us) (hx : StrsAre us.toList xs) (hu : xs.Nodup) (hb : us.size + 1 < scanBound) {Q : Value → Shared → Prop}
    (hQ : ∀ (h2 : Heap) (k : Nat), Made P w h2 s.heap.objs.size xs us.size → (∀ b o, b < s.heap.objs.size → s.heap.get? b = some o → h2.get? b = some o) → Q (.ref s.heap.objs.size) { s with heap := h2, toks := k }) :
    wpAny (model P w) A (call (.type "set") [.ref p]) Q E s := by
  obtain ⟨_, _, _⟩ := PySem.F.called_set.mro
  have m1 := PySem.F.called_set.made
  have m2 := PySem.F.called_set.sub
  have m3 := PySem.F.called_set.notType
  have m4 := PySem.F.called_set.canCreate
  have m5 := PySem.F.typeCall_set_1 (.ref p)
  refine wpAny_call (codeAny_of_tree ?_)
  change wpAny _ _ (callAny (.type "set") _) _ _ _
  refine wpAny_pure ⟨Code.quiet_builtin _ (by decide +kernel), codeAny_builtin PySem.F.entry_type_call ?_⟩
  rw [Around.under_plain (weight_type_call_type "set" [.ref p] []) rfl]
  repeat (any_goals (first | assumption | wp_step))
  refine codeAny_mono (code_set_new_1 (.ref p) (E := E) (Q₁ := fun z s1 => ∃ led, z = .ref s.heap.objs.size ∧ s1 = { s with heap := s.heap.push (bare led) }) fun led => ⟨led, rfl, rfl⟩) fun r s1 hr => ?_
  rcases r with e | fl
  · exact hr
  · cases fl with
    | ret z =>
      obtain ⟨led, rfl, rfl⟩ := hr
      have h0 : (s.heap.push (bare led)).get? s.heap.objs.size = some (bare led) := Heap.get?_push_size _ rfl
      have hT : Shared.TypeIs { s with heap := s.heap.push (bare led) } (.ref s.heap.objs.size) "set" := ⟨_, h0, rfl⟩
      have m6 := PySem.F.called_set.init.lookup
      have m7 := PySem.F.called_set.init.bind (.ref s.heap.objs.size)
      repeat (any_goals (first | assumption | wp_step))
      refine codeAny_mono (init_texts (E := E) (Q := fun r s2 => r = .none ∧ ∃ h2 k, s2 = { s with heap := h2, toks := k } ∧ Made P w h2 s.heap.objs.size xs us.size ∧ (∀ b o, b < s.heap.objs.size → s.heap.get? b = some o → h2.get? b = some o)) (by simp [hA]) hp hx hu hb fun h2 k a b => ⟨rfl, h2, k, rfl, a, b⟩) fun r2 s2 hr2 => ?_
      rcases r2 with e | fl
      · exact hr2
      · cases fl with
        | ret z =>
          obtain ⟨rfl, h2, k, rfl, a, b⟩ := hr2
          repeat (any_goals (first | assumption | wp_step))
          exact hQ _ _ a b
        | _ => exact hr2.elim
    | _ => exact hr.elim
end
/-- len(set(l)) -/
def tLenSetU (K : PySem.W.Frag) (ta : TE) : TE := fun σ H Q => ta σ H fun x H1 => ∃ (p : Addr) (xs : List Str), x = .ref p ∧ SqL K H1 p (xs.map V.str) ∧ xs.Nodup ∧ xs.length + 1 < scanBound ∧ Q (.int xs.length) H1
theorem pe_lenSetU {X : Cx} {a : Expr} {ta : TE} {p p2 q pos : Pos} (hc : X.calm = true) (hg : Gl X "len") (hm : X.mg "len" = none) (hg2 : Gl X "set") (hm2 : X.mg "set" = none) (ha : PE X a ta)
    (na : starEach [a] X.env = (false, eval a X.env) :: starEach [] X.env := by rfl) : PE X (.Call (.Name "len" p) [.Call (.Name "set" p2) [a] [] q] [] pos) (tLenSetU X.K ta) := by
  refine ⟨fun pins s σ H Q I h => Call_ (ld_blt I hg hm boot_len (PyProof.Rows.callWith_builtin1 (PyProof.Rows.args_cons ?_ rfl) rfl rfl))⟩
  refine Call_ (ld_blt I hg2 hm2 boot_set (PyProof.Rows.callWith_type1 (PyProof.Rows.args_cons (thn (ha.run pins s σ H _ I h) fun v s1 ⟨x, H1, I1, r1, q1⟩ => PyProof.Rows.args_nil ?_) na) na rfl))
  obtain ⟨b, xs, rfl, hl, hu, hz, q1⟩ := q1
  cases r1
  obtain ⟨its, r, pl, _⟩ := I1.list hl
  have hn : its.toArray.size = xs.length := by rw [List.size_toArray, ← r.length, List.length_map]
  refine set_texts (I1.ok.hd hc) pl.isList (by simpa using strsAre_of r) hu (by rw [hn]; exact hz) fun h2 k mk kp => PyProof.Rows.args_nil ?_
  rw [hn] at mk
  obtain ⟨o, es, ep, t, ho, hex, hd, _, _, sb, hf, hs⟩ := mk
  have I2 : Inv X pins σ H1 { s1 with heap := h2, toks := k } := I1.kept fun b o e => kp b o (Heap.lt_size e) e
  exact call_len_set ho hex hd hf (by unfold scanBound at hz; omega) ⟨.int xs.length, H1, I2.tok _, ⟨_, by rw [hs]⟩, q1⟩
theorem ev_lenSetU {c : Cn} {S S1 : Stt} {ta : TE} {xs : List Str} (h : EvS c S ta (.d (.list (xs.map .str))) S1) (hu : xs.Nodup) (hz : xs.length + 1 < scanBound) : EvS c S (tLenSetU c.K ta) (.d (.int (xs.length : Int))) S1 := fun A σ H L Q q => h A σ H L _ fun v H1 L1 e1 r1 => by
  obtain ⟨a, vs, rfl, h1, h2⟩ := Dt.lst_inv r1
  obtain rfl := h2.strs_inv
  exact ⟨a, xs, rfl, .inl (.inl (hidP_le _ _ h1)), hu, hz, q _ H1 L1 e1 (Dt.int _)⟩
end Tk

/-! TkEnum -/
set_option Elab.async false
set_option linter.all false
set_option autoImplicit false
set_option maxRecDepth 100000
set_option maxHeartbeats 2000000
/-! for i, c in enumerate(text) -/
namespace Tk
open PySem PySem.Spec PyProof.Rows L2
def ItE (x : Str) : It := ⟨fun i _ => i < x.cps.size, fun i H v H' => ∃ T k, v = .ref T ∧ H T = none ∧ H' = upd H T (.tup [.int (i : Nat), .str ⟨#[k]⟩]) ∧ x.cps[i]? = some k, fun i _ => x.cps.size ≤ i⟩
theorem turn_etxt {P : Program} {w : World} {K : PySem.W.Frag} {elts : List Expr} {kk : Nat} {tpos : Pos} (x : Str) (t : Tok) (ty : String) (hty : ty = "str_ascii_iterator" ∨ ty = "str_iterator") (e it : Addr) :
    Turn P w K (.Tuple elts kk tpos) (ItE x) [e, it] e (fun i h => (∃ old, IsEnum h e it ((i : Nat) : Int) old) ∧ h.IsStrIter it ty x t i ∧ e ≠ it) where
  mem := by simp
  obj := fun i h st b hb => by
    obtain ⟨⟨old, he⟩, ⟨o, ho, hc, hd⟩, _⟩ := st
    rcases List.mem_cons.mp hb with rfl | hb
    · exact ⟨_, he, fun v q => nomatch q⟩
    · obtain rfl := List.mem_singleton.mp hb
      exact ⟨o, ho, fun v q => by rw [hd] at q; cases q⟩
  keep := fun i h h' st k => by
    obtain ⟨⟨old, he⟩, ⟨o, ho, r⟩, ne⟩ := st
    exact ⟨⟨old, k e (by simp) _ he⟩, ⟨o, k it (by simp) o ho, r⟩, ne⟩
  item := by
    intro X hP hw hK hc i pins s σ H E I hf st hg
    subst hP hw hK
    obtain ⟨⟨old, he⟩, hit, ne⟩ := st
    have hel : e < s.heap.objs.size := Heap.lt_size he
    have hil : it < s.heap.objs.size := by
      obtain ⟨_, q, _⟩ := hit
      exact Heap.lt_size q
    have D : Draws X.prog X.w X.A.in1 it [it] x.cps.size (fun i v => ∃ c u, x.cps[i]? = some c ∧ v = Value.str ⟨#[c]⟩ u) (fun i h => h.IsStrIter it ty x t i) := by
      rcases hty with z | z
      · rw [z]
        exact Draws.strAscii (show X.A.in1.handled = none by simpa using I.ok.hd hc) it x t
      · rw [z]
        exact Draws.strWide (show X.A.in1.handled = none by simpa using I.ok.hd hc) it x t
    refine wpAny_pyNext_enum_itemD D he hit hg ne (by simpa using ne) fun u h' tk pu ho hit' hT hsz hk => ?_
    obtain ⟨k, tu, hkx, rfl⟩ := pu
    refine ⟨_, rfl, wpAny_letOwnedTupleGo_enum (s := { s with heap := h', toks := tk + 1 }) ho fun h2 he' sb => ?_⟩
    have hT2 : h2.get? s.heap.objs.size = some { cls := .type "tuple", data := .seq #[.int i tk, .str ⟨#[k]⟩ tu] } := (sb.2 _ (Nat.ne_of_gt hel)).trans hT
    have new : ObjOk X.prog X.w (upd H s.heap.objs.size (.tup [.int (i : Nat), .str ⟨#[k]⟩])) h2 s.heap.objs.size (.tup [.int (i : Nat), .str ⟨#[k]⟩]) :=
      ⟨(by decide : 2 ≤ sizeLine), [.int i tk, .str ⟨#[k]⟩ tu], .cons ⟨_, rfl⟩ (.cons ⟨_, rfl⟩ .nil), ⟨_, hT2, rfl, _, rfl⟩⟩
    have I1 : Inv X pins σ (upd H s.heap.objs.size (.tup [.int (i : Nat), .str ⟨#[k]⟩])) { s with heap := h2, toks := tk + 1 } :=
      I.turnedNew (ch := [e, it]) (fun b ob hb q => (sb.2 b (fun z => hb (by simp [z]))).trans (hk b ob (fun z => hb (by simp [z])) (fun z => hb (by simp [z])) q)) hf (Nat.le_refl _) new
    refine ⟨.ref s.heap.objs.size, _, I1, rfl, ⟨_, k, rfl, I.hok.fresh (Nat.le_refl _), rfl, hkx⟩, ⟨⟨.str ⟨#[k]⟩ tu, ?_⟩, ?_, ne⟩, fun b hb => ?_⟩
    · have e1 : ((i + 1 : Nat) : Int) = (i : Int) + 1 := by omega
      rw [e1]
      exact he'
    · obtain ⟨o, ho2, r⟩ := hit'
      exact ⟨o, (sb.2 it (Ne.symm ne)).trans ho2, r⟩
    · have hb' : b < s.heap.objs.size := by
        rcases List.mem_cons.mp hb with rfl | hb
        · exact hel
        · obtain rfl := List.mem_singleton.mp hb
          exact hil
      rw [upd_ne (Nat.ne_of_lt hb')]
      exact (hf b hb).1
  done := by
    intro X hP hw hK hc i pins s σ H E I hf st hg
    subst hP hw hK
    obtain ⟨⟨old, he⟩, hit, ne⟩ := st
    obtain ⟨f0, f1, f2, f3, f4, f5⟩ := hf it (by simp)
    have D : Draws X.prog X.w X.A.in1 it [it] x.cps.size (fun i v => ∃ c u, x.cps[i]? = some c ∧ v = Value.str ⟨#[c]⟩ u) (fun i h => h.IsStrIter it ty x t i) := by
      rcases hty with z | z
      · rw [z]
        exact Draws.strAscii (show X.A.in1.handled = none by simpa using I.ok.hd hc) it x t
      · rw [z]
        exact Draws.strWide (show X.A.in1.handled = none by simpa using I.ok.hd hc) it x t
    have hx : x.cps[i]? = none := Array.getElem?_eq_none hg
    have fin : ∀ h' : Heap, Heap.ExtBut it s.heap h' → L2.Inv X pins σ H { s with heap := h' } := fun h' eb => I.turned (t' := s.toks) (fun b o hb q => eb b o hb q) f0 f1 f3 f4 f5
    have hT : s.TypeIs (.ref e) "enumerate" := ⟨_, he, rfl⟩
    unfold pyNext
    refine wpAny_bind (wpAny_attempt (wpAny_callSpecial?_slot (name := Str.ofString "__next__") hT PySem.F.slot_enumerate_next (wpAny_call_entry PySem.F.slot_enumerate_next hT PySem.F.entry_enumerate_next ?_ (PySem.F.args_enumerate_next_1 _))))
    change wpAny _ _ (field (.ref e) 2 >>= _) _ _ _
    refine wpAny_bind (wpAny_field he rfl (x := .ref it) rfl ?_)
    have stop : ∀ (h' : Heap) (y : Addr), Heap.ExtBut it s.heap h' → (∃ o, h'.get? y = some o ∧ o.cls = .type "StopIteration") → True := fun _ _ _ _ => trivial
    rcases hty with z | z
    · rw [z] at hit
      refine wpAny_bind (wpAny_nextOf_ascii_end (by simpa using I.ok.hd hc) hit hx fun h' y eb hy => ?_)
      obtain ⟨o, ho, hcl⟩ := hy
      exact wpAny_bind (wpAny_isInstance (T := "StopIteration") (b := true) ⟨o, ho, hcl⟩ isSubtype_stop (wpAny_pure ⟨rfl, fin _ eb⟩))
    · rw [z] at hit
      refine wpAny_bind (wpAny_nextOf_wide_end (by simpa using I.ok.hd hc) hit hx fun h' y eb hy => ?_)
      obtain ⟨o, ho, hcl⟩ := hy
      exact wpAny_bind (wpAny_isInstance (T := "StopIteration") (b := true) ⟨o, ho, hcl⟩ isSubtype_stop (wpAny_pure ⟨rfl, fin _ eb⟩))
  self := fun A i s Q E st h => let ⟨⟨_, he⟩, _⟩ := st; wpAny_pyIter_enum he h
def iETxt (ta : TA) : TI := fun σ H R => ta σ H fun vs H1 => ∃ x, vs = [.str x] ∧ R (ItE x) H1
theorem pi_etxt {X : Cx} {e : Expr} {ta : TA} {p pos tpos : Pos} {elts : List Expr} {kk : Nat} (hg : Gl X "enumerate") (hm : X.mg "enumerate" = none) (ha : PA X [e] ta) (hs : starEach [e] X.env = [(false, eval e X.env)] := by rfl) :
    PI X (.Tuple elts kk tpos) (.Call (.Name "enumerate" p) [e] [] pos) (iETxt ta) := by
  refine ⟨fun pins s σ H R I h => Call_ (ld_blt I hg hm boot_enumerate (PyProof.Rows.callWith_type1 (thn (ha.run pos pins s σ H _ I h) fun us s1 ⟨vs, H1, I1, r1, q1⟩ => ?_) hs rfl))⟩
  obtain ⟨x, rfl, q⟩ := q1
  cases r1 with
  | cons r rr =>
    cases rr
    obtain ⟨t, rfl⟩ := r
    refine call_enumerate_str fun h' he hit hsz hk => wpAny_pyIter_enum he ?_
    have I2 : L2.Inv X pins σ H1 { s1 with heap := h' } := I1.kept (t' := s1.toks) hk
    have ty : strIterType x = "str_ascii_iterator" ∨ strIterType x = "str_iterator" := by
      unfold strIterType
      split
      · exact .inl rfl
      · exact .inr rfl
    refine ⟨s1.heap.objs.size + 1, [s1.heap.objs.size + 1, s1.heap.objs.size], _, _, H1, rfl, I2, turn_etxt x t _ ty (s1.heap.objs.size + 1) s1.heap.objs.size, ⟨⟨.none, he⟩, hit, Nat.succ_ne_self _⟩, fun b hb => ?_, q⟩
    have hle : s1.heap.objs.size ≤ b := by
      rcases List.mem_cons.mp hb with rfl | hb
      · exact Nat.le_add_right _ _
      · obtain rfl := List.mem_singleton.mp hb
        exact Nat.le_refl _
    exact I1.fpOk hle (I1.hok.fresh hle)
/-- the pairs -/
def pairs (s : Str) : List PyData := (List.range s.length).map fun i : Nat => PyData.tuple [.int (i : Int), .str ⟨#[s.cps.toList.getD i 0]⟩]
theorem ei_etxt {c : Cn} {S S1 : Stt} {ta : TA} {s : Str} (h : EvA c S ta [.d (.str s)] S1) : EvI c S (iETxt ta) ((pairs s).map Dx.d) S1 := fun A σ H L R q => h A σ H L _ fun vs H1 L1 e1 r1 => by
  cases r1 with
  | cons r rr =>
    cases rr
    refine ⟨s, by rw [Dt.str_inv r], q _ H1 L1 e1 fun H' e => ⟨fun i x hx => ?_, fun i hi => ?_⟩⟩
    · have hi : i < s.length := by
        have h := (List.getElem?_eq_some_iff.mp hx).1
        unfold pairs at h
        simpa using h
      have hk : s.cps[i]? = some (s.cps.toList.getD i 0) := by
        rw [← Array.getElem?_toList, List.getD_eq_getElem?_getD]
        have hl : i < s.cps.toList.length := by rw [Array.length_toList]; exact hi
        rw [List.getElem?_eq_getElem hl]
        rfl
      have hx' : x = .d (.tuple [.int (i : Int), .str ⟨#[s.cps.toList.getD i 0]⟩]) := by
        unfold pairs at hx
        rw [List.map_map, List.getElem?_map, List.getElem?_range hi] at hx
        cases hx
        rfl
      subst hx'
      refine ⟨hi, fun v H'' hy => ?_⟩
      obtain ⟨T, k, rfl, hT, rfl, hk2⟩ := hy
      rw [hk] at hk2
      cases hk2
      refine ⟨same_new hT, fun P hP hB => Dt.tup (.inl (.inl ?_)) (.cons (.int _) (.cons (.str _) .nil))⟩
      rw [hidP_neg (fun z => hP T z hT), upd_same]
    · unfold pairs at hi
      rw [List.length_map, List.length_map, List.length_range] at hi
      exact hi
end Tk

/-! TkD -/
set_option Elab.async false
set_option linter.all false
set_option autoImplicit false
set_option maxRecDepth 100000
set_option maxHeartbeats 2000000
/-! the draws: a dict of a list that is popped, a number, a list that is read, a count -/
namespace Tk
open PySem PySem.Spec PyProof.Rows L2
structure Dst where
  large : List Int
  rest : Int
  cells : List Int
  turn : Int
def kvsD (la ca : Addr) (d : Dst) : List (Key × V) := [(.inr "large", .ref la), (.inr "rest", .int d.rest), (.inr "cells", .ref ca), (.inr "turn", .int d.turn)]
/-- the hidden: the dict, the list within -/
def Drw (a la ca : Addr) (d : Dst) : Hp → Prop := fun H => H a = some (.dK (kvsD la ca d)) ∧ H la = some (.lst (d.large.map V.int))
structure DrC (c : Cn) (a la ca : Addr) (cells : List Int) : Prop where
  pa : c.P a
  pl : c.P la
  mt : ∀ b, c.Mt b ↔ (b = a ∨ b = la)
  np : ¬ c.P ca
  h0 : c.H0 ca = some (.lst (cells.map V.int))
theorem Drw.st {a la ca : Addr} {d : Dst} {P : Addr → Prop} (pa : P a) (pl : P la) : ∀ H H' : Hp, Kp P H H' → Drw a la ca d H → Drw a la ca d H' := fun H H' h ⟨h1, h2⟩ => ⟨(h.p a pa).trans h1, (h.p la pl).trans h2⟩
section
variable {c : Cn} {S S1 S2 : Stt} {G : List (Option En)} {te : TE} {a la ca : Addr} {d : Dst} {i : Nat}
theorem valV_rest {la ca : Addr} {d : Dst} : valV (kvsD la ca d) (.inr "rest") = some (.int d.rest) := by
  unfold kvsD valV
  simp only [List.find?_cons]
  rfl
theorem ev_dRest (D : DrC c a la ca d.cells) (hn : i < c.n) (hi : G[i]? = some (some (.x (.raw (.ref a))))) : EvS c ⟨Drw a la ca d, G⟩ (tDGet (tVar i) (tC (.str "rest"))) (.d (.int d.rest)) ⟨Drw a la ca d, G⟩ := fun A σ H L Q q => by
  obtain ⟨v, e1, e2⟩ := L.val i _ hn hi
  cases e2
  exact ⟨_, e1, a, .int d.rest, rfl, .inl ⟨_, .inr "rest", .inl L.wk.1, rfl, rfl⟩, q _ H L (Same.refl _) (Dt.int _)⟩
theorem ev_dTurn (D : DrC c a la ca d.cells) (hn : i < c.n) (hi : G[i]? = some (some (.x (.raw (.ref a))))) : EvS c ⟨Drw a la ca d, G⟩ (tDGet (tVar i) (tC (.str "turn"))) (.d (.int d.turn)) ⟨Drw a la ca d, G⟩ := fun A σ H L Q q => by
  obtain ⟨v, e1, e2⟩ := L.val i _ hn hi
  cases e2
  exact ⟨_, e1, a, .int d.turn, rfl, .inl ⟨_, .inr "turn", .inl L.wk.1, rfl, rfl⟩, q _ H L (Same.refl _) (Dt.int _)⟩
theorem seen_ca {S : Stt} {A : Nat → Addr} {σ : L2.St} {H : Hp} (D : DrC c a la ca d.cells) (L : Sl c A S σ H) (ne : ca ≠ a ∧ ca ≠ la) : hid c A S H ca = some (.lst (d.cells.map V.int)) := by
  have no : ¬ (c.P ca ∨ S.owns A ca) := fun z => by
    rcases z with z | ⟨j, ds, e, rfl⟩
    · exact D.np z
    · obtain ⟨_, e2, _⟩ := L.own j ds e
      rw [D.h0] at e2
      cases e2
  show hidP _ _ ca = _
  rw [hidP_neg no]
  exact L.sm ca _ (fun m => ((D.mt ca).mp m).elim ne.1 ne.2) D.h0
theorem DrC.ne (D : DrC c a la ca d.cells) : ca ≠ a ∧ ca ≠ la := ⟨fun z => D.np (z ▸ D.pa), fun z => D.np (z ▸ D.pl)⟩
theorem ev_dCells (D : DrC c a la ca d.cells) (hn : i < c.n) (hi : G[i]? = some (some (.x (.raw (.ref a))))) : EvS c ⟨Drw a la ca d, G⟩ (tDGet (tVar i) (tC (.str "cells"))) (.d (.list (d.cells.map .int))) ⟨Drw a la ca d, G⟩ := fun A σ H L Q q => by
  obtain ⟨v, e1, e2⟩ := L.val i _ hn hi
  cases e2
  exact ⟨_, e1, a, .ref ca, rfl, .inl ⟨_, .inr "cells", .inl L.wk.1, rfl, rfl⟩, q _ H L (Same.refl _) (Dt.lst (seen_ca D L D.ne) (DtA.ints _))⟩
theorem ev_dLarge (D : DrC c a la ca d.cells) (hn : i < c.n) (hi : G[i]? = some (some (.x (.raw (.ref a))))) : EvS c ⟨Drw a la ca d, G⟩ (tDGet (tVar i) (tC (.str "large"))) (.raw (.ref la)) ⟨Drw a la ca d, G⟩ := fun A σ H L Q q => by
  obtain ⟨v, e1, e2⟩ := L.val i _ hn hi
  cases e2
  exact ⟨_, e1, a, .ref la, rfl, .inl ⟨_, .inr "large", .inl L.wk.1, rfl, rfl⟩, q _ H L (Same.refl _) rfl⟩
theorem run_dRest {k : Int} (D : DrC c a la ca d.cells) (h : EvS c S te (.d (.int k)) ⟨Drw a la ca d, G⟩) (hn : i < c.n) (hi : G[i]? = some (some (.x (.raw (.ref a))))) : RunS c S (sDPut (tVar i) (tC (.str "rest")) te) (.nx ⟨Drw a la ca { d with rest := k }, G⟩) := fun A σ H L Dn w => h A σ H L _ fun v H1 L1 e1 r1 => by
  obtain rfl := Dt.int_inv r1
  obtain ⟨u, u1, u2⟩ := L1.val i _ hn hi
  cases u2
  obtain ⟨w1, w2⟩ := L1.wk
  have ne : a ≠ la := fun z => by
    rw [z, w2] at w1
    cases w1
  refine ⟨_, u1, a, _, rfl, .inl ⟨_, .inr "rest", w1, rfl, (by decide : 4 < sizeLine), rfl⟩, ?_⟩
  obtain ⟨L2, s2⟩ := L1.mut (H' := upd H1 a (.dK (putK (kvsD la ca d) (.inr "rest") (.int k)))) (W' := Drw a la ca { d with rest := k }) (fun b o m e => by rw [upd_ne (fun z => m ((D.mt b).mpr (.inl z)))]; exact e) (fun b m z => by
      rcases (D.mt b).mp m with rfl | rfl
      · rw [upd_same] at z
        cases z
      · rw [upd_ne ne.symm, w2] at z
        cases z) ⟨by rw [upd_same]; rfl, by rw [upd_ne ne.symm]; exact w2⟩ (Drw.st D.pa D.pl)
  exact w A σ _ L2 (e1.trans s2)
theorem run_dTurn {k : Int} (D : DrC c a la ca d.cells) (h : EvS c S te (.d (.int k)) ⟨Drw a la ca d, G⟩) (hn : i < c.n) (hi : G[i]? = some (some (.x (.raw (.ref a))))) : RunS c S (sDPut (tVar i) (tC (.str "turn")) te) (.nx ⟨Drw a la ca { d with turn := k }, G⟩) := fun A σ H L Dn w => h A σ H L _ fun v H1 L1 e1 r1 => by
  obtain rfl := Dt.int_inv r1
  obtain ⟨u, u1, u2⟩ := L1.val i _ hn hi
  cases u2
  obtain ⟨w1, w2⟩ := L1.wk
  have ne : a ≠ la := fun z => by
    rw [z, w2] at w1
    cases w1
  refine ⟨_, u1, a, _, rfl, .inl ⟨_, .inr "turn", w1, rfl, (by decide : 4 < sizeLine), rfl⟩, ?_⟩
  obtain ⟨L2, s2⟩ := L1.mut (H' := upd H1 a (.dK (putK (kvsD la ca d) (.inr "turn") (.int k)))) (W' := Drw a la ca { d with turn := k }) (fun b o m e => by rw [upd_ne (fun z => m ((D.mt b).mpr (.inl z)))]; exact e) (fun b m z => by
      rcases (D.mt b).mp m with rfl | rfl
      · rw [upd_same] at z
        cases z
      · rw [upd_ne ne.symm, w2] at z
        cases z) ⟨by rw [upd_same]; rfl, by rw [upd_ne ne.symm]; exact w2⟩ (Drw.st D.pa D.pl)
  exact w A σ _ L2 (e1.trans s2)
/-- draw['large'] != [] -/
theorem ev_neLarge (D : DrC c a la ca d.cells) (hn : i < c.n) (hi : G[i]? = some (some (.x (.raw (.ref a))))) : EvS c ⟨Drw a la ca d, G⟩ (tOp (rNeD c.K) (tDGet (tVar i) (tC (.str "large"))) (tLst tNil)) (.d (.bool (!d.large.isEmpty))) ⟨Drw a la ca d, G⟩ := fun A σ H L Q q =>
  ev_dLarge D hn hi A σ H L _ fun v H1 L1 e1 r1 => (ev_lst (ds := []) ea_nil (Nat.zero_le _) : EvS c ⟨Drw a la ca d, G⟩ (tLst tNil) (.d (.list [])) ⟨Drw a la ca d, G⟩) A σ H1 L1 _ fun u H2 L2 e2 r2 => by
    cases r1
    have sd : SeqAt.shaped (.list (d.large.map .int)) = true := by
      have h1 : ∀ l : List Int, PyData.canLayAll0 (l.map .int) = true := fun l => by
        induction l with
        | nil => rfl
        | cons x r ih => exact ih
      have h2 : ∀ l : List Int, PyData.depthAll (l.map .int) = 0 := fun l => by
        induction l with
        | nil => rfl
        | cons x r ih =>
          show max 0 _ = 0
          rw [ih]
          rfl
      unfold SeqAt.shaped
      rw [show PyData.canLay0 (.list (d.large.map .int)) = true from h1 _, show PyData.depth (.list (d.large.map .int)) = 0 + 1 from by rw [← h2 d.large]; rfl]
      rfl
    refine ⟨.list (d.large.map .int), .list [], (Dt.lst (H := H2) L2.wk.2 (DtA.ints _)).dp (SeqAt.canLay_of_shaped sd), (Dt.mono hidP_le r2).dp rfl, sd, by decide +kernel, ?_⟩
    have e : PyData.eqv (.list (d.large.map .int)) (.list []) = d.large.isEmpty := by cases d.large <;> simp [PyData.eqv, PyData.eqvAll]
    rw [e]
    exact q _ H2 L2 (e1.trans e2) (Dt.bl _)
/-- draw['large'].pop(0) -/
theorem ev_popLarge {x : Int} {r : List Int} (D : DrC c a la ca d.cells) (hn : i < c.n) (hi : G[i]? = some (some (.x (.raw (.ref a))))) (hl : d.large = x :: r) :
    EvS c ⟨Drw a la ca d, G⟩ (tBM c.K "list" rPopAt (tDGet (tVar i) (tC (.str "large"))) (tCons (tC (.int 0)) tNil)) (.d (.int x)) ⟨Drw a la ca { d with large := r }, G⟩ := fun A σ H L Q q =>
  ev_dLarge D hn hi A σ H L _ fun v H1 L1 e1 r1 => by
    cases r1
    obtain ⟨w1, w2⟩ := L1.wk
    have ne : a ≠ la := fun z => by
      rw [z, w2] at w1
      cases w1
    refine ⟨.inl ⟨rfl, _, .inl (.inl w2)⟩, la, _, 0, 0, .int x, rfl, rfl, w2, (by decide), (by decide), ?_, ?_, ?_⟩
    · rw [List.length_map, hl, List.length_cons]
      exact (ixN_seq (n := r.length + 1) (i := 0) (j := 0) (ixN_nat (j := 0) (Nat.succ_pos _))).1
    · rw [hl]
      rfl
    · rw [hl]
      obtain ⟨L2, s2⟩ := L1.mut (H' := upd H1 la (.lst (r.map V.int))) (W' := Drw a la ca { d with large := r }) (fun b o m e => by rw [upd_ne (fun z => m ((D.mt b).mpr (.inr z)))]; exact e) (fun b m z => by
        rcases (D.mt b).mp m with rfl | rfl
        · rw [upd_ne ne, w1] at z
          cases z
        · rw [upd_same] at z
          cases z) ⟨by rw [upd_ne ne]; exact w1, upd_same⟩ (Drw.st D.pa D.pl)
      exact q _ _ L2 (e1.trans s2) (Dt.int x)
end
end Tk

/-! TkDf -/
set_option Elab.async false
set_option linter.all false
set_option autoImplicit false
set_option maxRecDepth 100000
set_option maxHeartbeats 2000000
namespace Tk
open PySem PySem.Spec PyProof.Rows L2
/-- a def that draws -/
def spD (K : PySem.W.Frag) (C : Addr) (m : Dst → List Dx → Dx → Dst → Prop) : Sp := fun vs H Q E => ∃ (a la ca : Addr) (d : Dst) (R : Addr → Prop) (vs' : List V) (xs : List Dx) (z : Dx) (d' : Dst), vs = .ref a :: vs' ∧ Drw a la ca d H ∧ R a ∧ R la ∧ ¬ R ca ∧ H ca = some (.lst (d.cells.map .int)) ∧ (∀ b, R b → H b ≠ none) ∧
  RxA K C (hidP R H) vs' xs ∧ m d xs z d' ∧ ∀ v H', (∀ b o, b ≠ a → b ≠ la → H b = some o → H' b = some o) → Drw a la ca d' H' → Rx K C (hidP R H') v z → Q v H'
theorem ev_callD {c : Cn} {S : Stt} {G : List (Option En)} {ta : TA} {xs : List Dx} {z : Dx} {a la ca : Addr} {d d' : Dst} {m : Dst → List Dx → Dx → Dst → Prop} {E : XK} (D : DrC c a la ca d.cells) (h : EvA c S ta (.raw (.ref a) :: xs) ⟨Drw a la ca d, G⟩) (hm : m d xs z d') :
    EvS c S (tCall (spD c.K c.C m) [] E ta) z ⟨Drw a la ca d', G⟩ := fun A σ H L Q q => h A σ H L _ fun vs H1 L1 e1 r1 => by
  cases r1 with
  | cons r0 r1 =>
    cases r0
    obtain ⟨w1, w2⟩ := L1.wk
    have seen : ¬ (c.P ca ∨ Stt.owns ⟨Drw a la ca d, G⟩ A ca) := fun z => by
      rcases z with z | ⟨j, ds, e, rfl⟩
      · exact D.np z
      · obtain ⟨_, e2, _⟩ := L1.own j ds e
        rw [D.h0] at e2
        cases e2
    refine ⟨a, la, ca, d, fun b => c.P b ∨ Stt.owns ⟨Drw a la ca d, G⟩ A b, _, xs, z, d', by rw [List.append_nil], ⟨w1, w2⟩, .inl D.pa, .inl D.pl, seen, ?_, fun b hb => L1.hidAlive hb, r1, hm, fun v H' hs hd rv => ?_⟩
    · exact L1.sm ca _ (fun m => ((D.mt ca).mp m).elim D.ne.1 D.ne.2) D.h0
    · obtain ⟨L2, s2⟩ := L1.mut (H' := H') (W' := Drw a la ca d') (fun b o m e => hs b o (fun z => m ((D.mt b).mpr (.inl z))) (fun z => m ((D.mt b).mpr (.inr z))) e) (fun b m z => by
        rcases (D.mt b).mp m with rfl | rfl
        · rw [hd.1] at z
          cases z
        · rw [hd.2] at z
          cases z) hd (Drw.st D.pa D.pl)
      exact q v H' L2 (e1.trans s2) rv
section
variable {P : Program} {w : World} {K : PySem.W.Frag} {mg : Str → Option Value} {base : Heap} {C : Addr}
theorem fn_okD {x qual : Str} {st : Stmt} {f : Addr} {fd : FuncData} {N ps : List Str} {k : Nat} {m : Dst → List Dx → Dx → Dst → Prop} (F : Fun K x qual st f fd) (S : FnScope N ps (defScope st)) (len : ∀ d xs z d', m d xs z d' → xs.length + 1 = ps.length)
    (hbody : ∀ (cdv : Value) (A : Around) (outer : List Env) (s : Shared) (H : Hp) (E : XK), Room k (A.deeper (envOfC qual (defScope st) s.heap.objs.size f cdv)) → ∀ (a la ca : Addr) (d : Dst) (xs : List Dx) (z : Dx) (d' : Dst), m d xs z d' →
      ∃ t, PSs (fx P w K mg base N qual st f cdv A outer s H E) (defBody st) t ∧ ∀ c : Cn, c.K = K → c.C = C → c.n = N.length → DrC c a la ca d.cells → RunS c ⟨Drw a la ca d, (S0 N.length (.raw (.ref a) :: xs)).G⟩ t (.rt z (Drw a la ca d'))) :
    FnOk P w K mg base (L2.CX P w) (k + 1) f fd ps (spD K C m) := by
  have hps : ps.length ≤ N.length := by
    have h := congrArg List.length S.pre
    rw [List.length_take] at h
    omega
  refine F.okX S (fun vs H Q E ⟨a, la, ca, d, R, vs', xs, z, d', h1, _, _, _, _, _, _, h2, h3, _⟩ => by rw [h1, List.length_cons, h2.len]; exact len _ _ _ _ h3) fun cdv A outer s H vs Q E hr ⟨a, la, ca, d, R, vs', xs, z, d', h1, hd, ra, rl, rc, hc, al, h2, h3, hq⟩ => ?_
  subst h1
  obtain ⟨t, ht, hrun⟩ := hbody cdv A outer s H E hr a la ca d xs z d' h3
  refine ⟨t, ht, ?_⟩
  have hl := len _ _ _ _ h3
  have L := sl_start (K := K) (C := C) (N := N) (vs := .ref a :: vs') (xs := .raw (.ref a) :: xs) (H := H) (R := R) (Mt := fun b => b = a ∨ b = la) (W := Drw a la ca d) (fun b hb => by
    rcases hb with rfl | rfl
    · exact ra
    · exact rl) (.cons rfl h2) al (by rw [List.length_cons]; omega) hd (Drw.st ra rl)
  exact hrun ⟨K, C, H, R, fun b => b = a ∨ b = la, _, N.length⟩ rfl rfl rfl ⟨ra, rl, fun b => Iff.rfl, rc, hc⟩ _ _ _ L _ fun v H' lf rv => hq v H' (fun b o n1 n2 e => lf.sm b o (fun z => z.elim n1 n2) e) lf.wk rv
end
end Tk

/-! K2a -/
set_option Elab.async false
set_option linter.all false
set_option autoImplicit false
set_option maxRecDepth 100000
set_option maxHeartbeats 4000000
namespace K2
open PySem PySem.Spec PyProof.Rows L2 Tk
/-! ### the text -/
def topS (i : Nat) : Stmt := PySem.Challenge.pw_toldofkinds_k02_whole_texts_of_shapes.main.body.getD i (.Pass ⟨0, 0, 0, 0⟩)
/-! ### shapes as data -/
def formOf (z : Str) : Option Int := if z = "any" ∨ z = "none" then some 1 else if z = "kind" then some 2 else if z = "both" ∨ z = "tied" then some 3 else none
structure FT (K : PySem.W.Frag) (w : World) (d : Addr) : Prop where
  kd : ∃ es n, KDict K w d es n
  yes : ∀ z i, formOf z = some i → ∃ u, PySem.W.nsIn K d z = some (some u) ∧ RelV (.int i) u
  no : ∀ z, formOf z = none → PySem.W.nsIn K d z = some none
def rNotInF (K : PySem.W.Frag) (d : Addr) : R2 := fun x y H Q => ∃ (z : Str) (r : Option Value), x = .str z ∧ y = .ref d ∧ PySem.W.nsIn K d z = some r ∧ Q (.bl (!r.isSome)) H
theorem op_nF {X : Cx} {d : Addr} {es : Array DictEntry} {n : Nat} (D : KDict X.K X.w d es n) : OpR X (compareOp .NotIn) (rNotInF X.K d) := op_notIn_kd D
section
variable {c : Cn} {S S1 S2 : Stt} {w : World} {d : Addr}
theorem rv_nF (F : FT c.K w d) {z : Str} : RvS c S (rNotInF c.K d) (.d (.str z)) (.raw (.ref d)) (.d (.bool (formOf z).isNone)) := fun A σ H L v u rv ru Q q => by
  cases ru
  cases h : formOf z with
  | none =>
    rw [h] at q
    exact ⟨z, none, Dt.str_inv rv, rfl, F.no z h, q _ H (Same.refl _) (Dt.bl _)⟩
  | some i =>
    rw [h] at q
    obtain ⟨u, u1, _⟩ := F.yes z i h
    exact ⟨z, some u, Dt.str_inv rv, rfl, u1, q _ H (Same.refl _) (Dt.bl _)⟩
theorem rv_xF (F : FT c.K w d) {z : Str} {i : Int} (h : formOf z = some i) : RvS c S (rIxD c.K w) (.raw (.ref d)) (.d (.str z)) (.d (.int i)) := fun A σ H L v u rv ru Q q => by
  cases rv
  obtain ⟨u1, h1, h2⟩ := F.yes z i h
  obtain ⟨es, n, D⟩ := F.kd
  exact ⟨d, z, .int i, rfl, Dt.str_inv ru, ⟨es, n, u1, D.at_, D.lit, h1, h2⟩, q _ H (Same.refl _) (Dt.int _)⟩
end
/-! ### the module's facts -/
structure MT (P : Program) (w : World) (K : PySem.W.Frag) (mg : Str → Option Value) (base : Heap) (C : Addr) : Prop where
  W : WT P w K mg base C
  F : ∃ d, mg "FORMS" = some (.ref d) ∧ FT K w d
  B : ∀ x : Str, x ∈ (["isinstance", "len", "all", "any", "tuple", "list", "str", "dict", "bool", "int", "set", "abs", "min", "range", "enumerate"] : List Str) → mg x = none
  ms : ∃ t, mg "MOST_SIZE" = some (.int 60 t)
  mKi : ∃ t, mg "MOST_KINDS" = some (.int 6 t)
  mTi : ∃ t, mg "MOST_TIES" = some (.int 3 t)
  sg : ∃ t, mg "SIGNS" = some (.str "(), " t)
  an : ∃ a, mg "ANY" = some (.ref a) ∧ ∀ H, SqT K H a [V.str "any"]
  no : ∃ a, mg "NONE" = some (.ref a) ∧ ∀ H, SqT K H a [V.str "none"]
  lt : ∃ t, mg "LETTERS" = some (.str "abcdefghijklmnopqrstuvwxyz" t)
abbrev sInner : Stmt := topS 23
theorem scInner : FnScope ["shape"] ["shape"] (defScope sInner) := ⟨rfl, rfl, rfl, by decide +kernel, rfl, by decide +kernel, by decide +kernel⟩
abbrev sForm : Stmt := topS 24
theorem scForm : FnScope ["words", "thing"] ["words", "thing"] (defScope sForm) := ⟨rfl, rfl, rfl, by decide +kernel, rfl, by decide +kernel, by decide +kernel⟩
abbrev sShp : Stmt := topS 25
theorem scShp : FnScope ["words", "thing", "line", "many", "here"] ["words", "thing"] (defScope sShp) := ⟨rfl, rfl, rfl, by decide +kernel, rfl, by decide +kernel, by decide +kernel⟩
abbrev sNS : Stmt := topS 26
theorem scNS : FnScope ["words", "shape"] ["words", "shape"] (defScope sNS) := ⟨rfl, rfl, rfl, by decide +kernel, rfl, by decide +kernel, by decide +kernel⟩
abbrev sNW : Stmt := topS 17
theorem scNW : FnScope ["words"] ["words"] (defScope sNW) := ⟨rfl, rfl, rfl, by decide +kernel, rfl, by decide +kernel, by decide +kernel⟩
/-- the shapes that lie straight within -/
def innerD (x : Str) (r : List PyData) : List PyData := if x = "both" then r else if x = "tied" then r.drop 1 else []
/-- the form of a shape, whatever lies within -/
def argB (ks ts : List Str) (x : Str) : List PyData → Bool
  | .str z :: _ => decide (z ∈ (if x = "kind" then ks else ts))
  | _ => false
def formB (ks ts : List Str) (x : Str) (r : List PyData) : Bool := match formOf x with
  | none => false
  | some n => if ((r.length + 1 : Nat) : Int) ≠ n then false else if x = "kind" ∨ x = "tied" then argB ks ts x r else true
theorem formB_none {ks ts : List Str} {x : Str} {r : List PyData} (h : formOf x = none) : formB ks ts x r = false := by
  unfold formB
  rw [h]
theorem formB_some {ks ts : List Str} {x : Str} {r : List PyData} {n : Int} (h : formOf x = some n) : formB ks ts x r = if ((r.length + 1 : Nat) : Int) ≠ n then false else if x = "kind" ∨ x = "tied" then argB ks ts x r else true := by
  unfold formB
  rw [h]
def hasForm (ks ts : List Str) : PyData → Bool
  | .tuple (.str x :: r) => formB ks ts x r
  | _ => false
section
variable {P : Program} {w : World} {K : PySem.W.Frag} {mg : Str → Option Value} {base : Heap} {C : Addr}
def mInner (xs : List Dx) (r : Res) : Prop := ∃ x rest, xs = [.d (.tuple (.str x :: rest))] ∧ r = .ok (.d (.tuple (innerD x rest)))
theorem ok_inner {f : Addr} {fd : FuncData} (F : Fun K "inner_of" "inner_of" sInner f fd) : FnOk P w K mg base (L2.CX P w) 1 f fd ["shape"] (spF K C mInner) := by
  refine fn_ok F scInner (fun xs r ⟨x, rest, h, _⟩ => by rw [h]; rfl) fun cdv A outer s H E hr xs r ⟨x, rest, h1, h3⟩ => ?_
  subst h1 h3
  refine ⟨_, pss_one (ps_ret (pe_ifExp (pt_cmpR op_eq (pe_ix ix_seq (pv 0) pe_int (fun _ _ => rfl)) pe_str (nomark _)) (pe_slice sl_tupA (pv 0) (po_some pe_int) po_none)
    (pe_ifExp (pt_cmpR op_eq (pe_ix ix_seq (pv 0) pe_int (fun _ _ => rfl)) pe_str (nomark _)) (pe_slice sl_tupA (pv 0) (po_some pe_int) po_none) (pe_tup pa_nil)))), fun c hc => ?_⟩
  obtain ⟨rfl, rfl, hn, hm⟩ := hc
  refine end_ret ?_
  have v0 : EvS c (S0 1 [.d (.tuple (.str x :: rest))]) (tVar 0) (.d (.tuple (.str x :: rest))) (S0 1 [.d (.tuple (.str x :: rest))]) := ev_var (by rw [hn]; decide) rfl
  have v1 : EvS c (S0 1 [.d (.tuple (.str x :: rest))]) (tOp (rIx c.K) (tVar 0) (tC (.int 0))) (.d (.str x)) (S0 1 [.d (.tuple (.str x :: rest))]) := ev_op v0 ev_int (rv_it 0 rfl)
  unfold innerD
  by_cases hb : x = "both"
  · rw [if_pos hb]
    refine ev_ifT (eb_test (ev_is (ev_op v1 ev_str rv_eqS) (by rw [decide_eq_true hb]))) (ev_is (ev_slT v0 (ep_some ev_int) ep_none) ?_)
    rw [show (1 : Int) = ((1 : Nat) : Int) from rfl, cutD_from]
    rfl
  · rw [if_neg hb]
    refine ev_ifF (eb_test (ev_is (ev_op v1 ev_str rv_eqS) (by rw [decide_eq_false hb]))) ?_
    by_cases ht : x = "tied"
    · rw [if_pos ht]
      refine ev_ifT (eb_test (ev_is (ev_op v1 ev_str rv_eqS) (by rw [decide_eq_true ht]))) (ev_is (ev_slT v0 (ep_some ev_int) ep_none) ?_)
      rw [show (2 : Int) = ((2 : Nat) : Int) from rfl, cutD_from]
      rfl
    · rw [if_neg ht]
      refine ev_ifF (eb_test (ev_is (ev_op v1 ev_str rv_eqS) (by rw [decide_eq_false ht]))) (ev_tup (ds := []) ea_nil (by decide))
theorem eqv_unit : ∀ ds : List PyData, PyData.eqv (.tuple ds) (.tuple []) = ds.isEmpty
  | [] => by simp [PyData.eqv, PyData.eqvAll]
  | _ :: _ => by simp [PyData.eqv, PyData.eqvAll]
theorem shaped_unit : SeqAt.shaped (.tuple []) = true := by decide +kernel
def mForm (xs : List Dx) (r : Res) : Prop := ∃ ks ts d, xs = [.w ks ts, .d d] ∧ SeqAt.shaped d = true ∧ r = .ok (.d (.bool (hasForm ks ts d)))
theorem ok_form {f : Addr} {fd : FuncData} (F : Fun K "has_form" "has_form" sForm f fd) (M : MT P w K mg base C) : FnOk P w K mg base (L2.CX P w) 3 f fd ["words", "thing"] (spF K C mForm) := by
  refine fn_ok F scForm (fun xs r ⟨ks, ts, d, h, _⟩ => by rw [h]; rfl) fun cdv A outer s H E hr xs r ⟨ks, ts, d, h1, hs, h3⟩ => ?_
  subst h1 h3
  obtain ⟨df, gF, FF⟩ := M.F
  obtain ⟨es, en, Df⟩ := FF.kd
  have hr1 : Room 2 _ := hr
  have WTh := M.W
  have B : ∀ x : Str, x ∈ _ → mg x = none := M.B
  have b1 := B "isinstance" (by decide)
  have b2 := B "tuple" (by decide)
  have b3 := B "str" (by decide)
  have b4 := B "len" (by decide)
  refine ⟨_, (pss_cons (ps_if (PW.pt (pw_or (pt_not (pt_val (pe_callB call_isi (by rfl) b1 boot_isinstance (pa_cons (pv 1) (pa_cons (pe_bltn (v := .ty "tuple") (by rfl) b2 (by decide +kernel) rfl) pa_nil))))) (pw_or (pt_cmpR (op_eqD hr1.units) (pv 1) (pe_tup pa_nil) (nomark _)) (pw_or (pt_not (pt_val (pe_callB call_isi (by rfl) b1 boot_isinstance (pa_cons (pe_ix ix_seq (pv 1) pe_int (fun _ _ => rfl)) (pa_cons (pe_bltn (v := .ty "str") (by rfl) b3 (by decide +kernel) rfl) pa_nil))))) (pw_or1 (pt_cmpR (op_nF Df) (pe_ix ix_seq (pv 1) pe_int (fun _ _ => rfl)) (pe_glob (v := .ref df) (by rfl) gF rfl) rfl)))))) (pss_one (ps_ret pe_bl)) pss_nil)
      (pss_cons (ps_if (pt_cmpR op_ne (pe_callB call_lenSq (by rfl) b4 boot_len (pa_cons (pv 1) pa_nil)) (pe_ix ix_kdict (pe_glob (v := .ref df) (by rfl) gF rfl) (pe_ix ix_seq (pv 1) pe_int (fun _ _ => rfl)) (fun _ _ => rfl)) (nomark _)) (pss_one (ps_ret pe_bl)) pss_nil)
      (pss_cons (ps_if (pt_cmpR op_in_seq (pe_ix ix_seq (pv 1) pe_int (fun _ _ => rfl)) (pe_tup (pa_cons pe_str (pa_cons pe_str pa_nil))) rfl) (pss_one (ps_ret (pe_and (pe_callB call_isi (by rfl) b1 boot_isinstance (pa_cons (pe_ix ix_seq (pv 1) pe_int (fun _ _ => rfl)) (pa_cons (pe_bltn (v := .ty "str") (by rfl) b3 (by decide +kernel) rfl) pa_nil))) (pe_one (pe_cmpR op_in_seq (pe_ix ix_seq (pv 1) pe_int (fun _ _ => rfl)) (pe_ifExp (pt_cmpR op_eq (pe_ix ix_seq (pv 1) pe_int (fun _ _ => rfl)) pe_str (nomark _)) (pe_kinds WTh hr1 (pv 0)) (pe_ties WTh hr1 (pv 0))) rfl))))) pss_nil)
      (pss_one (ps_ret pe_bl))))), fun c hc => ?_⟩
  obtain ⟨rfl, rfl, hn, hm⟩ := hc
  obtain ⟨S, hS⟩ : ∃ S, S = S0 2 [.w ks ts, .d d] := ⟨_, rfl⟩
  refine end_run (fun _ => True) ?_
  show RunS c (S0 2 [.w ks ts, .d d]) _ (.rt _ (S0 2 [.w ks ts, .d d]).W)
  rw [← hS]
  have v0 : EvS c S (tVar 0) (.w ks ts) S := by rw [hS]; exact ev_var (by rw [hn]; decide) rfl
  have v1 : EvS c S (tVar 1) (.d d) S := by rw [hS]; exact ev_var (by rw [hn]; decide) rfl
  have t1 : EvB c S (tNot (tB (tCB (rIsi c.K) (tCons (tVar 1) (tCons (tC (.ty "tuple")) tNil))))) (!isTup d) S := eb_not (eb_B (ev_isi v1 (kit_tup d) (lay_dic (SeqAt.canLay_of_shaped hs))))
  cases d with
  | tuple ds =>
    have t2 : EvB c S (tTest (tOp (rEqD c.K) (tVar 1) (tTup tNil))) ds.isEmpty S := eb_test (ev_is (ev_op v1 (ev_tup (ds := []) ea_nil (by decide)) (rv_eq hs shaped_unit)) (by rw [eqv_unit]))
    cases ds with
    | nil => exact run_stop (run_ifT (eb_or0 t1 (eb_or1 t2)) (run_ret ev_bl)) rfl
    | cons h r =>
      have x0 : EvS c S (tOp (rIx c.K) (tVar 1) (tC (.int 0))) (.d h) S := ev_op v1 ev_int (rv_it 0 rfl)
      have t3 : EvB c S (tNot (tB (tCB (rIsi c.K) (tCons (tOp (rIx c.K) (tVar 1) (tC (.int 0))) (tCons (tC (.ty "str")) tNil))))) (!isStr h) S := eb_not (eb_B (ev_isi x0 (kit_str h) (lay_dic (PyData.canLay0_of_mem (h :: r) h (SeqAt.canLay_of_shaped hs) (by simp)))))
      cases h with
      | str x =>
        have t4 : EvB c S (tTest (tOp (rNotInF c.K df) (tOp (rIx c.K) (tVar 1) (tC (.int 0))) (tC (.ref df)))) (formOf x).isNone S := eb_test (ev_op x0 ev_raw (rv_nF FF))
        show RunS c S _ (.rt (.d (.bool (formB ks ts x r))) S.W)
        cases hf : formOf x with
        | none =>
          rw [hf] at t4
          rw [formB_none hf]
          exact run_stop (run_ifT (eb_or0 t1 (eb_or0 t2 (eb_or0 t3 t4))) (run_ret ev_bl)) rfl
        | some n =>
          rw [hf] at t4
          rw [formB_some hf]
          refine run_seq (run_ifF (eb_or0 t1 (eb_or0 t2 (eb_or0 t3 t4))) run_next) ?_
          have t5 : EvB c S (tTest (tOp rNe (tCB (rLenSq c.K) (tCons (tVar 1) tNil)) (tOp (rIxD c.K w) (tC (.ref df)) (tOp (rIx c.K) (tVar 1) (tC (.int 0)))))) (!decide (((r.length + 1 : Nat) : Int) = n)) S :=
            eb_test (ev_op (ev_lenT v1) (ev_op ev_raw x0 (rv_xF FF hf)) rv_neI)
          by_cases hl : ((r.length + 1 : Nat) : Int) = n
          · rw [decide_eq_true hl] at t5
            refine run_seq (run_ifF t5 run_next) ?_
            rw [if_neg (fun z => z hl)]
            have t6 : EvB c S (tTest (tOp (rIn c.K false) (tOp (rIx c.K) (tVar 1) (tC (.int 0))) (tTup (tCons (tC (.str "kind")) (tCons (tC (.str "tied")) tNil))))) (decide (x ∈ (["kind", "tied"] : List Str))) S :=
              eb_test (ev_op x0 (ev_tup (ds := (["kind", "tied"] : List Str).map .str) (ea_cons ev_str (ea_cons ev_str ea_nil)) (by decide)) rv_inT)
            by_cases hk : x = "kind" ∨ x = "tied"
            · rw [if_pos hk]
              rw [decide_eq_true (show x ∈ (["kind", "tied"] : List Str) by rcases hk with h | h <;> rw [h] <;> decide)] at t6
              refine run_stop (run_ifT t6 (run_ret ?_)) rfl
              have hr2 : r ≠ [] := fun z => by
                subst z
                rcases hk with h | h <;> rw [h] at hf <;> cases hf <;> cases hl
              cases r with
              | nil => exact absurd rfl hr2
              | cons e r2 =>
                have x1 : EvS c S (tOp (rIx c.K) (tVar 1) (tC (.int 1))) (.d e) S := ev_op v1 ev_int (rv_it 1 rfl)
                have s1 := ev_isi x1 (kit_str e) (lay_dic (PyData.canLay0_of_mem (.str x :: e :: r2) e (SeqAt.canLay_of_shaped hs) (by simp)))
                cases e with
                | str z =>
                  refine ev_and1 s1 ?_
                  have ek : EvB c S (tTest (tOp rEq (tOp (rIx c.K) (tVar 1) (tC (.int 0))) (tC (.str "kind")))) (decide (x = "kind")) S := eb_test (ev_op x0 ev_str rv_eqS)
                  by_cases hx : x = "kind"
                  · rw [decide_eq_true hx] at ek
                    show EvS c S _ (.d (.bool (decide (z ∈ (if x = "kind" then ks else ts))))) S
                    rw [if_pos hx]
                    exact ev_op x1 (ev_ifT ek (ev_kinds v0)) rv_inT
                  · rw [decide_eq_false hx] at ek
                    show EvS c S _ (.d (.bool (decide (z ∈ (if x = "kind" then ks else ts))))) S
                    rw [if_neg hx]
                    exact ev_op x1 (ev_ifF ek (ev_ties v0)) rv_inT
                | _ => exact ev_and0 s1
            · rw [if_neg hk]
              rw [decide_eq_false (show ¬ x ∈ (["kind", "tied"] : List Str) from fun z => hk (by simpa using z))] at t6
              exact run_seq (run_ifF t6 run_next) (run_ret ev_bl)
          · rw [decide_eq_false hl] at t5
            rw [if_pos hl]
            exact run_stop (run_ifT t5 (run_ret ev_bl)) rfl
      | _ => exact run_stop (run_ifT (eb_or0 t1 (eb_or0 t2 (eb_or1 t3))) (run_ret ev_bl)) rfl
  | _ => exact run_stop (run_ifT (eb_or1 t1) (run_ret ev_bl)) rfl
end
end K2

/-! K2b -/
set_option Elab.async false
set_option linter.all false
set_option autoImplicit false
set_option maxRecDepth 100000
set_option maxHeartbeats 4000000
namespace K2
open PySem PySem.Spec PyProof.Rows L2 Tk
/-! ### data that can be compared -/
def Sd (k : Nat) (d : PyData) : Prop := d.canLay0 = true ∧ d.depth ≤ k
theorem Sd.shaped {k : Nat} {d : PyData} (h : Sd k d) (hk : k ≤ 64) : SeqAt.shaped d = true := by
  unfold SeqAt.shaped
  rw [h.1, Bool.true_and]
  exact decide_eq_true (Nat.le_trans h.2 hk)
theorem lay_all : ∀ ds : List PyData, (∀ d ∈ ds, d.canLay0 = true) → PyData.canLayAll0 ds = true
  | [], _ => rfl
  | d :: r, h => by
    show (d.canLay0 && PyData.canLayAll0 r) = true
    rw [h d (by simp), lay_all r fun e he => h e (by simp [he])]
    rfl
theorem depth_all {k : Nat} : ∀ ds : List PyData, (∀ d ∈ ds, d.depth ≤ k) → PyData.depthAll ds ≤ k
  | [], _ => Nat.zero_le _
  | d :: r, h => by
    show max d.depth (PyData.depthAll r) ≤ k
    exact Nat.max_le.mpr ⟨h d (by simp), depth_all r fun e he => h e (by simp [he])⟩
theorem Sd.tup {k : Nat} {ds : List PyData} (h : ∀ d ∈ ds, Sd k d) : Sd (k + 1) (.tuple ds) := ⟨lay_all ds fun d hd => (h d hd).1, Nat.succ_le_succ (depth_all ds fun d hd => (h d hd).2)⟩
theorem Sd.lst {k : Nat} {ds : List PyData} (h : ∀ d ∈ ds, Sd k d) : Sd (k + 1) (.list ds) := ⟨lay_all ds fun d hd => (h d hd).1, Nat.succ_le_succ (depth_all ds fun d hd => (h d hd).2)⟩
theorem Sd.up {j k : Nat} {d : PyData} (h : Sd j d) (l : j ≤ k) : Sd k d := ⟨h.1, Nat.le_trans h.2 l⟩
theorem Sd.of_tup {k : Nat} {ds : List PyData} {d : PyData} (h : Sd (k + 1) (.tuple ds)) (hd : d ∈ ds) : Sd k d :=
  ⟨PyData.canLay0_of_mem ds d h.1 hd, Nat.le_trans (PyData.depth_le_depthAll ds d hd) (Nat.le_of_succ_le_succ h.2)⟩
theorem Sd.non {k : Nat} : Sd k .none := ⟨rfl, Nat.zero_le _⟩
theorem Sd.bol {k : Nat} {b : Bool} : Sd k (.bool b) := ⟨rfl, Nat.zero_le _⟩
theorem Sd.int {k : Nat} {i : Int} : Sd k (.int i) := ⟨rfl, Nat.zero_le _⟩
theorem Sd.str {k : Nat} {s : Str} (h : PyData.strOk s = true) : Sd k (.str s) := ⟨h, Nat.zero_le _⟩
theorem eqv_nil : ∀ ds : List PyData, PyData.eqv (.list ds) (.list []) = ds.isEmpty
  | [] => by simp [PyData.eqv, PyData.eqvAll]
  | _ :: _ => by simp [PyData.eqv, PyData.eqvAll]
/-! ### is_shape_of -/
/-- what lies within a value of the right form -/
def innD : PyData → List PyData
  | .tuple (.str x :: r) => innerD x r
  | _ => []
/-- n parts may follow; the line's end first -/
def shGo (ks ts : List Str) : Nat → List PyData → Bool
  | _, [] => true
  | 0, _ :: _ => false
  | n + 1, h :: r => if hasForm ks ts h then shGo ks ts n ((innD h).reverse ++ r) else false
def isShape (ks ts : List Str) (d : PyData) : Bool := shGo ks ts 60 [d]
theorem innerD_mem {x : Str} {r : List PyData} {d : PyData} (h : d ∈ innerD x r) : d ∈ r := by
  unfold innerD at h
  split at h
  · exact h
  · split at h
    · exact List.mem_of_mem_drop h
    · cases h
theorem innD_sd {k : Nat} {h d : PyData} (hs : Sd k h) (hd : d ∈ innD h) : Sd k d := by
  unfold innD at hd
  split at hd
  · cases k with
    | zero => exact absurd hs.2 (by simp [PyData.depth])
    | succ k => exact (hs.of_tup (List.mem_cons_of_mem _ (innerD_mem hd))).up (Nat.le_succ k)
  · cases hd
theorem innerD_len (x : Str) (r : List PyData) : (innerD x r).length ≤ r.length := by
  unfold innerD
  split
  · exact Nat.le_refl _
  · split
    · rw [List.length_drop]
      omega
    · exact Nat.zero_le _
theorem formOf_le {x : Str} {n : Int} (h : formOf x = some n) : n ≤ 3 := by
  unfold formOf at h
  split at h
  · cases h
    decide
  · split at h
    · cases h
      decide
    · split at h
      · cases h
        decide
      · cases h
theorem form_inn {ks ts : List Str} {h : PyData} (hf : hasForm ks ts h = true) : (∃ x r, h = .tuple (.str x :: r)) ∧ (innD h).length ≤ 2 := by
  unfold hasForm at hf
  split at hf
  · rename_i x r
    refine ⟨⟨x, r, rfl⟩, ?_⟩
    cases q : formOf x with
    | none =>
      rw [formB_none q] at hf
      cases hf
    | some n =>
      rw [formB_some q] at hf
      by_cases hl : ((r.length + 1 : Nat) : Int) = n
      · have h3 := formOf_le q
        have := innerD_len x r
        show (innerD x r).length ≤ 2
        omega
      · rw [if_pos hl] at hf
        cases hf
  · cases hf
def lsS (ks ts : List Str) (d : PyData) (st : List PyData) (m : Int) (e : Option En) : Stt := ⟨fun _ => True, [some (.x (.w ks ts)), some (.x (.d d)), some (.own st.reverse), some (.x (.d (.int m))), e]⟩
section
variable {P : Program} {w : World} {K : PySem.W.Frag} {mg : Str → Option Value} {base : Heap} {C : Addr}
def mShp (xs : List Dx) (r : Res) : Prop := ∃ ks ts d, xs = [.w ks ts, .d d] ∧ Sd 63 d ∧ r = .ok (.d (.bool (isShape ks ts d)))
theorem ok_shp {f : Addr} {fd : FuncData} (F : Fun K "is_shape_of" "is_shape_of" sShp f fd) (M : MT P w K mg base C) (h_has_form : Cal P w K mg base "has_form" 3 ["words", "thing"] (spF K C mForm)) (h_inner_of : Cal P w K mg base "inner_of" 3 ["shape"] (spF K C mInner)) :
    FnOk P w K mg base (L2.CX P w) 4 f fd ["words", "thing"] (spF K C mShp) := by
  refine fn_ok F scShp (fun xs r ⟨ks, ts, d, h, _⟩ => by rw [h]; rfl) fun cdv A outer s H E hr xs r ⟨ks, ts, d, h1, hs, h3⟩ => ?_
  subst h1 h3
  obtain ⟨tm, gM⟩ := M.ms
  have hr1 : Room 3 _ := hr
  refine ⟨_, (pss_cons (ps_par (i := 2) (j := 3) rfl scShp.nd rfl rfl (by decide) rfl rfl (pa_cons (pe_lst (pa_cons (pv 1) pa_nil)) (pa_cons pe_int pa_nil)) rfl)
      (pss_cons (ps_while pown (pt_cmpR (op_neD hr1.units) (pv 2) (pe_lst pa_nil) (nomark _)) (pss_cons (ps_set (i := 4) scShp.nd rfl (.inl rfl) (pe_bm0 PySem.F.plainAttrs_list PySem.F.slot_list_pop PySem.F.type_list_pop mt_pop (pv 2)))
      (pss_cons (ps_set (i := 3) scShp.nd rfl (.inl rfl) (pe_op op_add (pv 3) pe_int))
      (pss_cons (ps_if (PW.pt (pw_or (pt_cmpR op_gt (pv 3) (pe_glob (v := .int 60) (by rfl) gM ⟨_, rfl⟩) (nomark _)) (pw_or1 (pt_not (pt_val (pe_cal h_has_form hr1 pxE (pa_cons (pv 0) (pa_cons (pv 4) pa_nil)))))))) (pss_one (ps_ret pe_bl)) pss_nil)
      (pss_one (ps_expr (pe_bm PySem.F.plainAttrs_list PySem.F.slot_list_extend PySem.F.type_list_extend mt_extT (pv 2) (pa_cons (pe_cal h_inner_of hr1 pxE (pa_cons (pv 4) pa_nil)) pa_nil))))))))
      (pss_one (ps_ret pe_bl)))), fun c hc => ?_⟩
  obtain ⟨rfl, rfl, hn, hm⟩ := hc
  refine end_run (fun _ => True) ?_
  have n0 : 0 < c.n := by rw [hn]; decide
  have n2 : 2 < c.n := by rw [hn]; decide
  have n3 : 3 < c.n := by rw [hn]; decide
  have n4 : 4 < c.n := by rw [hn]; decide
  have n1 : 1 < c.n := by rw [hn]; decide
  refine run_seq (S1 := lsS ks ts d [d] 0 none) (run_parOV (S1 := S0 5 [.w ks ts, .d d]) (eo_lst (ds := [d]) (ea_cons (ev_var n1 rfl) ea_nil) (by simp)) ev_int n2 (by rw [hn]; exact Nat.le_refl 5)) ?_
  refine run_whileQ (n := 60) (fun n S => ∃ st m e, S = lsS ks ts d st m e ∧ m = 60 - (n : Int) ∧ n ≤ 60 ∧ shGo ks ts n st = isShape ks ts d ∧ (∀ e ∈ st, Sd 63 e) ∧ st.length ≤ 1 + 2 * (60 - n)) (fun S => S.W = (fun _ => True) ∧ isShape ks ts d = true)
    ⟨[d], 0, none, rfl, rfl, Nat.le_refl _, rfl, by simpa using hs, Nat.le_refl 1⟩ ?_ fun S hS => by rw [hS.2, ← hS.1]; exact run_ret ev_bl
  rintro n S ⟨st, m, e, rfl, hm, hn60, hv, hst, hl⟩
  have ht : EvB c (lsS ks ts d st m e) (tTest (tOp (rNeD c.K) (tVar 2) (tLst tNil))) (!st.reverse.isEmpty) (lsS ks ts d st m e) := by
    have q := ev_neO (S := lsS ks ts d st m e) (i := 2) (ds := st.reverse) (es := []) n2 rfl (ev_lst (ds := []) ea_nil (by decide)) ((Sd.lst (k := 63) fun x hx => hst x (by simpa using hx)).shaped (by decide)) (by decide +kernel)
    rw [eqv_nil] at q
    exact eb_test q
  cases st with
  | nil =>
    refine .done ht ⟨rfl, ?_⟩
    rw [← hv]
    unfold shGo
    rfl
  | cons h r =>
    have ht' : EvB c (lsS ks ts d (h :: r) m e) (tTest (tOp (rNeD c.K) (tVar 2) (tLst tNil))) true (lsS ks ts d (h :: r) m e) := eb_is ht (by simp)
    have hh : Sd 63 h := hst h (by simp)
    have p1 : RunS c (lsS ks ts d (h :: r) m e) (tAsg (tBM0 c.K "list" rPop (tVar 2)) (gName 4)) (.nx (lsS ks ts d r m (some (.x (.d h))))) :=
      run_set (ev_pop (ds := r.reverse) (d := h) n2 (by simp [lsS]))
    have p2 : RunS c (lsS ks ts d r m (some (.x (.d h)))) (tAsg (tOp (rI0 fun i j => .int (i + j)) (tVar 3) (tC (.int 1))) (gName 3)) (.nx (lsS ks ts d r (m + 1) (some (.x (.d h))))) :=
      run_set (ev_op (ev_var n3 rfl) ev_int rv_int)
    have p3 : EvB c (lsS ks ts d r (m + 1) (some (.x (.d h)))) (tTest (tOp (rI0 fun i j => .bl (decide (j < i))) (tVar 3) (tC (.int 60)))) (decide ((60 : Int) < m + 1)) (lsS ks ts d r (m + 1) (some (.x (.d h)))) :=
      eb_test (ev_op (ev_var n3 rfl) ev_int rv_cmp)
    have p4 : EvB c (lsS ks ts d r (m + 1) (some (.x (.d h)))) (tNot (tB (tCall (spF c.K c.C mForm) [] E (tCons (tVar 0) (tCons (tVar 4) tNil))))) (!hasForm ks ts h) (lsS ks ts d r (m + 1) (some (.x (.d h)))) :=
      eb_not (eb_B (ev_callF (ea_cons (ev_var n0 rfl) (ea_cons (ev_var n4 rfl) ea_nil)) ⟨ks, ts, h, rfl, hh.shaped (by decide), rfl⟩))
    cases n with
    | zero =>
      refine .ret ht' (run_seq p1 (run_seq p2 (run_stop (run_ifT (eb_or1 (eb_is p3 (decide_eq_true (by omega)))) (run_ret ev_bl)) rfl))) ?_
      rw [← hv]
      unfold shGo
      rfl
    | succ n =>
      have p3' := eb_is p3 (decide_eq_false (show ¬ (60 : Int) < m + 1 by omega))
      have ev : shGo ks ts (n + 1) (h :: r) = if hasForm ks ts h then shGo ks ts n ((innD h).reverse ++ r) else false := by
        rw [shGo]
      rw [ev] at hv
      cases hf : hasForm ks ts h with
      | false =>
        rw [hf] at hv p4
        refine .ret ht' (run_seq p1 (run_seq p2 (run_stop (run_ifT (eb_or0 p3' p4) (run_ret ev_bl)) rfl))) ?_
        rw [← hv]
        rfl
      | true =>
        rw [hf] at hv p4
        obtain ⟨⟨x, rest, rfl⟩, hi2⟩ := form_inn hf
        have p5 : RunS c (lsS ks ts d r (m + 1) (some (.x (.d (.tuple (.str x :: rest)))))) (tDrop (tBM c.K "list" (rExtT c.K) (tVar 2) (tCons (tCall (spF c.K c.C mInner) [] E (tCons (tVar 4) tNil)) tNil))) (.nx (lsS ks ts d ((innD (.tuple (.str x :: rest))).reverse ++ r) (m + 1) (some (.x (.d (.tuple (.str x :: rest))))))) := by
          have q := ev_extT (c := c) (S := lsS ks ts d r (m + 1) (some (.x (.d (.tuple (.str x :: rest)))))) (i := 2) (ds := r.reverse) (ds1 := r.reverse) (es := innerD x rest) n2 rfl
            (ev_callF (m := mInner) (z := .d (.tuple (innerD x rest))) (E := E) (ea_cons (ev_var (x := .d (.tuple (.str x :: rest))) n4 rfl) ea_nil) ⟨x, rest, rfl, rfl⟩) rfl (by
              have : (innerD x rest).length ≤ 2 := hi2
              rw [List.length_reverse]
              rw [List.length_cons] at hl
              omega)
          have e2 : (lsS ks ts d r (m + 1) (some (.x (.d (.tuple (.str x :: rest)))))).own 2 (r.reverse ++ innerD x rest) = lsS ks ts d ((innD (.tuple (.str x :: rest))).reverse ++ r) (m + 1) (some (.x (.d (.tuple (.str x :: rest))))) := by
            simp [lsS, Stt.own, innD]
          rw [e2] at q
          exact run_drop q
        refine .step n ht' (run_seq p1 (run_seq p2 (run_seq (run_ifF (eb_or0 p3' p4) run_next) p5))) (Nat.lt_succ_self _) ⟨_, _, _, rfl, by omega, by omega, hv, fun y hy => ?_, ?_⟩
        · rcases List.mem_append.mp hy with hy | hy
          · exact innD_sd hh (by simpa using hy)
          · exact hst y (by simp [hy])
        · rw [List.length_append, List.length_reverse]
          rw [List.length_cons] at hl
          omega
end
end K2

/-! K2c -/
set_option Elab.async false
set_option linter.all false
set_option autoImplicit false
set_option maxRecDepth 100000
set_option maxHeartbeats 4000000
namespace K2
open PySem PySem.Spec PyProof.Rows L2 Tk
section
variable {P : Program} {w : World} {K : PySem.W.Frag} {mg : Str → Option Value} {base : Heap} {C : Addr}
def mNW (D : Addr) (xs : List Dx) (r : Res) : Prop := (∃ ks ts, xs = [.w ks ts] ∧ r = .ok (.d .none)) ∨ (xs = [.d .none] ∧ r = .ex D)
theorem ok_nw {f : Addr} {fd : FuncData} {D : Addr} (F : Fun K "need_words" "need_words" sNW f fd) (M : MT P w K mg base C) (XB : XT K mg "BadWords" D) : FnOk P w K mg base (L2.CX P w) 2 f fd ["words"] (spF K C (mNW D)) := by
  refine fn_ok F scNW (fun xs r h => by rcases h with ⟨ks, ts, h, _⟩ | ⟨h, _⟩ <;> rw [h] <;> rfl) fun cdv A outer s H E hr xs r h => ?_
  have hr1 : Room 1 _ := hr
  have WTh := M.W
  have B : ∀ x : Str, x ∈ _ → mg x = none := M.B
  have b1 := B "isinstance" (by decide)
  refine ⟨_, (pss_one (ps_if (pt_not (pt_val (pe_callB call_isi (by rfl) b1 boot_isinstance (pa_cons (pv 0) (pa_cons (pe_glob (v := .ref C) (by rfl) WTh.gC rfl) pa_nil))))) (pss_one (ps_raiseT XB)) pss_nil)), fun c hc => ?_⟩
  obtain ⟨rfl, rfl, hn, hm⟩ := hc
  have n0 : 0 < c.n := by rw [hn]; decide
  rcases h with ⟨ks, ts, rfl, rfl⟩ | ⟨rfl, rfl⟩
  · exact end_none _ (run_ifF (eb_not (eb_B (ev_isiW WTh (ev_var n0 rfl)))) run_next)
  · exact fun hE => run_ifT (eb_not (eb_B (ev_isiNone WTh (ev_var n0 rfl)))) (run_raise hE)
def mNS (D : Addr) (xs : List Dx) (r : Res) : Prop := ∃ ks ts d, xs = [.w ks ts, .d d] ∧ Sd 63 d ∧ r = if isShape ks ts d then .ok (.d .none) else .ex D
theorem ok_ns {f : Addr} {fd : FuncData} {D : Addr} (F : Fun K "need_shape" "need_shape" sNS f fd) (XB : XT K mg "BadShape" D) (h_is_shape_of : Cal P w K mg base "is_shape_of" 4 ["words", "thing"] (spF K C mShp)) : FnOk P w K mg base (L2.CX P w) 5 f fd ["words", "shape"] (spF K C (mNS D)) := by
  refine fn_ok F scNS (fun xs r ⟨ks, ts, d, h, _⟩ => by rw [h]; rfl) fun cdv A outer s H E hr xs r ⟨ks, ts, d, h1, hs, h3⟩ => ?_
  subst h1
  have hr1 : Room 4 _ := hr
  refine ⟨_, (pss_one (ps_if (pt_not (pt_val (pe_cal h_is_shape_of hr1 pxE (pa_cons (pv 0) (pa_cons (pv 1) pa_nil))))) (pss_one (ps_raiseT XB)) pss_nil)), fun c hc => ?_⟩
  obtain ⟨rfl, rfl, hn, hm⟩ := hc
  have n0 : 0 < c.n := by rw [hn]; decide
  have n1 : 1 < c.n := by rw [hn]; decide
  have q : EvB c (S0 2 [.w ks ts, .d d]) (tNot (tB (tCall (spF c.K c.C mShp) [] E (tCons (tVar 0) (tCons (tVar 1) tNil))))) (!isShape ks ts d) (S0 2 [.w ks ts, .d d]) := eb_not (eb_B (ev_callF (ea_cons (ev_var n0 rfl) (ea_cons (ev_var n1 rfl) ea_nil)) ⟨ks, ts, d, rfl, hs, rfl⟩))
  cases hd : isShape ks ts d with
  | true =>
    rw [hd] at q h3
    subst h3
    exact end_none _ (run_ifF q run_next)
  | false =>
    rw [hd] at q h3
    subst h3
    exact fun hE => run_ifT q (run_raise hE)
end
end K2

/-! K2m -/
set_option Elab.async false
set_option linter.all false
set_option autoImplicit false
set_option maxRecDepth 100000
set_option maxHeartbeats 4000000
namespace K2
open PySem PySem.Spec PyProof.Rows L2 Tk
/-! ### shapes -/
inductive Sh where
  | any | none | kind (k : Str) | both (a b : Sh) | tied (t : Str) (a : Sh)
def Sh.dat : Sh → PyData
  | .any => .tuple [.str "any"]
  | .none => .tuple [.str "none"]
  | .kind k => .tuple [.str "kind", .str k]
  | .both a b => .tuple [.str "both", a.dat, b.dat]
  | .tied t a => .tuple [.str "tied", .str t, a.dat]
def Sh.size : Sh → Nat
  | .both a b => a.size + b.size + 1
  | .tied _ a => a.size + 1
  | _ => 1
def Sh.depth : Sh → Nat
  | .both a b => max a.depth b.depth + 1
  | .tied _ a => a.depth + 1
  | _ => 1
def Sh.wf (ks ts : List Str) : Sh → Prop
  | .kind k => k ∈ ks
  | .both a b => a.wf ks ts ∧ b.wf ks ts
  | .tied t a => t ∈ ts ∧ a.wf ks ts
  | _ => True
/-- the text -/
def Sh.txt : Sh → Str
  | .any => "any"
  | .none => "none"
  | .kind k => k
  | .both a b => (("both" : Str) ++ ("(" : Str) ++ (a.txt ++ (", " : Str) ++ b.txt)) ++ (")" : Str)
  | .tied t a => (("tied" : Str) ++ ("(" : Str) ++ (t ++ (", " : Str) ++ a.txt)) ++ (")" : Str)
theorem Sh.size_pos : ∀ s : Sh, 0 < s.size
  | .any | .none | .kind _ => Nat.one_pos
  | .both _ _ | .tied _ _ => Nat.succ_pos _
theorem Sh.depth_le : ∀ s : Sh, s.depth ≤ s.size
  | .any | .none | .kind _ => Nat.le_refl _
  | .both a b => by
    have h1 := a.depth_le
    have h2 := b.depth_le
    show max a.depth b.depth + 1 ≤ a.size + b.size + 1
    omega
  | .tied _ a => Nat.succ_le_succ a.depth_le
theorem formOf_any : formOf "any" = some 1 := by decide +kernel
theorem formOf_none : formOf "none" = some 1 := by decide +kernel
theorem formOf_kind : formOf "kind" = some 2 := by decide +kernel
theorem formOf_both : formOf "both" = some 3 := by decide +kernel
theorem formOf_tied : formOf "tied" = some 3 := by decide +kernel
theorem formOf_inv {x : Str} {n : Int} (h : formOf x = some n) : (n = 1 ∧ (x = "any" ∨ x = "none")) ∨ (n = 2 ∧ x = "kind") ∨ (n = 3 ∧ (x = "both" ∨ x = "tied")) := by
  unfold formOf at h
  split at h
  · rename_i q
    cases h
    exact .inl ⟨rfl, q⟩
  · split at h
    · rename_i q
      cases h
      exact .inr (.inl ⟨rfl, q⟩)
    · split at h
      · rename_i q
        cases h
        exact .inr (.inr ⟨rfl, q⟩)
      · cases h
def sizes : List Sh → Nat
  | [] => 0
  | s :: r => s.size + sizes r
theorem sizes_app : ∀ a b : List Sh, sizes (a ++ b) = sizes a + sizes b
  | [], b => by simp [sizes]
  | x :: r, b => by
    show x.size + sizes (r ++ b) = x.size + sizes r + sizes b
    rw [sizes_app r b, Nat.add_assoc]
theorem two_eq {r : List PyData} (h : r.length = 2) : ∃ a b, r = [a, b] := by
  match r, h with
  | [a, b], _ => exact ⟨a, b, rfl⟩
theorem one_eq {r : List PyData} (h : r.length = 1) : ∃ a, r = [a] := by
  match r, h with
  | [a], _ => exact ⟨a, rfl⟩
/-- what the judge lets through are shapes -/
theorem shGo_sound {ks ts : List Str} : ∀ (n : Nat) (st : List PyData), shGo ks ts n st = true → ∃ shs : List Sh, st = shs.map Sh.dat ∧ sizes shs ≤ n ∧ ∀ s ∈ shs, s.wf ks ts
  | _, [], _ => ⟨[], rfl, Nat.zero_le _, fun _ h => by cases h⟩
  | 0, _ :: _, h => by
    unfold shGo at h
    cases h
  | n + 1, d :: r, h => by
    rw [shGo] at h
    cases hf : hasForm ks ts d with
    | false =>
      rw [hf] at h
      cases h
    | true =>
      rw [hf, if_pos rfl] at h
      obtain ⟨shs, e1, e2, e3⟩ := shGo_sound n _ h
      unfold hasForm at hf
      split at hf
      · rename_i x q
        cases ho : formOf x with
        | none =>
          rw [formB_none ho] at hf
          cases hf
        | some k =>
          rw [formB_some ho] at hf
          by_cases hl : ((q.length + 1 : Nat) : Int) = k
          · rw [if_neg (fun z => z hl)] at hf
            rcases formOf_inv ho with ⟨rfl, hx⟩ | ⟨rfl, rfl⟩ | ⟨rfl, hx⟩
            · have q0 : q = [] := List.eq_nil_of_length_eq_zero (by omega)
              subst q0
              rcases hx with rfl | rfl
              · exact ⟨.any :: shs, by rw [List.map_cons, ← e1]; rfl, by show 1 + sizes shs ≤ _; omega, fun s hs => by
                  rcases List.mem_cons.mp hs with rfl | hs
                  · trivial
                  · exact e3 s hs⟩
              · exact ⟨.none :: shs, by rw [List.map_cons, ← e1]; rfl, by show 1 + sizes shs ≤ _; omega, fun s hs => by
                  rcases List.mem_cons.mp hs with rfl | hs
                  · trivial
                  · exact e3 s hs⟩
            · obtain ⟨a, rfl⟩ := one_eq (r := q) (by omega)
              rw [if_pos (.inl rfl)] at hf
              unfold argB at hf
              split at hf
              · rename_i z _ hz
                cases hz
                rw [if_pos rfl] at hf
                have hk := of_decide_eq_true hf
                exact ⟨.kind z :: shs, by rw [List.map_cons, ← e1]; rfl, by show 1 + sizes shs ≤ _; omega, fun s hs => by
                  rcases List.mem_cons.mp hs with rfl | hs
                  · exact hk
                  · exact e3 s hs⟩
              · cases hf
            · obtain ⟨a, b, rfl⟩ := two_eq (r := q) (by omega)
              rcases hx with rfl | rfl
              · have e1' : [b, a] ++ r = shs.map Sh.dat := e1
                match shs, e1', e2, e3 with
                | sb :: sa :: rest, e1', e2, e3 =>
                  simp only [List.map_cons, List.cons_append, List.nil_append, List.cons.injEq] at e1'
                  obtain ⟨rfl, rfl, rfl⟩ := e1'
                  refine ⟨.both sa sb :: rest, rfl, ?_, fun s hs => ?_⟩
                  · have : sb.size + (sa.size + sizes rest) ≤ n := e2
                    show sa.size + sb.size + 1 + sizes rest ≤ n + 1
                    omega
                  · rcases List.mem_cons.mp hs with rfl | hs
                    · exact ⟨e3 _ (by simp), e3 _ (by simp)⟩
                    · exact e3 s (by simp [hs])
              · rw [if_pos (.inr rfl)] at hf
                unfold argB at hf
                split at hf
                · rename_i z _ hz
                  cases hz
                  rw [if_neg (by decide +kernel)] at hf
                  have hk := of_decide_eq_true hf
                  have e1' : [b] ++ r = shs.map Sh.dat := e1
                  match shs, e1', e2, e3 with
                  | sb :: rest, e1', e2, e3 =>
                    simp only [List.map_cons, List.cons_append, List.nil_append, List.cons.injEq] at e1'
                    obtain ⟨rfl, rfl⟩ := e1'
                    refine ⟨.tied z sb :: rest, rfl, ?_, fun s hs => ?_⟩
                    · have : sb.size + sizes rest ≤ n := e2
                      show sb.size + 1 + sizes rest ≤ n + 1
                      omega
                    · rcases List.mem_cons.mp hs with rfl | hs
                      · exact ⟨hk, e3 _ (by simp)⟩
                      · exact e3 s (by simp [hs])
                · cases hf
          · rw [if_pos hl] at hf
            cases hf
      · cases hf
theorem hasForm_str {ks ts : List Str} {x : Str} {r : List PyData} : hasForm ks ts (.tuple (.str x :: r)) = formB ks ts x r := rfl
theorem form_any {ks ts : List Str} : hasForm ks ts (.tuple [.str "any"]) = true := by
  rw [hasForm_str, formB_some formOf_any, if_neg (by decide), if_neg (by decide +kernel)]
theorem form_none {ks ts : List Str} : hasForm ks ts (.tuple [.str "none"]) = true := by
  rw [hasForm_str, formB_some formOf_none, if_neg (by decide), if_neg (by decide +kernel)]
theorem form_kind {ks ts : List Str} {k : Str} (h : k ∈ ks) : hasForm ks ts (.tuple [.str "kind", .str k]) = true := by
  rw [hasForm_str, formB_some formOf_kind, if_neg (by simp), if_pos (.inl rfl)]
  show decide (k ∈ (if ("kind" : Str) = "kind" then ks else ts)) = true
  rw [if_pos rfl]
  exact decide_eq_true h
theorem form_both {ks ts : List Str} {a b : PyData} : hasForm ks ts (.tuple [.str "both", a, b]) = true := by
  rw [hasForm_str, formB_some formOf_both, if_neg (by simp), if_neg (by decide +kernel)]
theorem form_tied {ks ts : List Str} {t : Str} {a : PyData} (h : t ∈ ts) : hasForm ks ts (.tuple [.str "tied", .str t, a]) = true := by
  rw [hasForm_str, formB_some formOf_tied, if_neg (by simp), if_pos (.inr rfl)]
  show decide (t ∈ (if ("tied" : Str) = "kind" then ks else ts)) = true
  rw [if_neg (by decide +kernel)]
  exact decide_eq_true h
theorem shGo_complete {ks ts : List Str} : ∀ (n : Nat) (shs : List Sh), sizes shs ≤ n → (∀ s ∈ shs, s.wf ks ts) → shGo ks ts n (shs.map Sh.dat) = true
  | n, [], _, _ => by
    show shGo ks ts n [] = true
    unfold shGo
    cases n <;> rfl
  | 0, s :: r, h, _ => absurd h (by
    show ¬ s.size + sizes r ≤ 0
    have := s.size_pos
    omega)
  | n + 1, s :: r, h, hw => by
    have h' : s.size + sizes r ≤ n + 1 := h
    have hr : ∀ s ∈ r, s.wf ks ts := fun x hx => hw x (by simp [hx])
    have hs := hw s (by simp)
    rw [List.map_cons, shGo]
    cases s with
    | any =>
      rw [show hasForm ks ts Sh.any.dat = true from form_any, if_pos rfl]
      exact shGo_complete n r (by have : 1 + sizes r ≤ n + 1 := h'; omega) hr
    | none =>
      rw [show hasForm ks ts Sh.none.dat = true from form_none, if_pos rfl]
      exact shGo_complete n r (by have : 1 + sizes r ≤ n + 1 := h'; omega) hr
    | kind k =>
      rw [show hasForm ks ts (Sh.kind k).dat = true from form_kind hs, if_pos rfl]
      exact shGo_complete n r (by have : 1 + sizes r ≤ n + 1 := h'; omega) hr
    | both a b =>
      rw [show hasForm ks ts (Sh.both a b).dat = true from form_both, if_pos rfl]
      refine shGo_complete n (b :: a :: r) ?_ fun x hx => ?_
      · show b.size + (a.size + sizes r) ≤ n
        have : a.size + b.size + 1 + sizes r ≤ n + 1 := h'
        omega
      · rcases List.mem_cons.mp hx with rfl | hx
        · exact hs.2
        · rcases List.mem_cons.mp hx with rfl | hx
          · exact hs.1
          · exact hr x hx
    | tied t a =>
      rw [show hasForm ks ts (Sh.tied t a).dat = true from form_tied hs.1, if_pos rfl]
      refine shGo_complete n (a :: r) ?_ fun x hx => ?_
      · show a.size + sizes r ≤ n
        have : a.size + 1 + sizes r ≤ n + 1 := h'
        omega
      · rcases List.mem_cons.mp hx with rfl | hx
        · exact hs.2
        · exact hr x hx
theorem isShape_iff {ks ts : List Str} {d : PyData} : isShape ks ts d = true ↔ ∃ s : Sh, d = s.dat ∧ s.size ≤ 60 ∧ s.wf ks ts := by
  constructor
  · intro h
    obtain ⟨shs, e1, e2, e3⟩ := shGo_sound 60 [d] h
    match shs, e1, e2, e3 with
    | [s], e1, e2, e3 =>
      simp only [List.map_cons, List.map_nil, List.cons.injEq, and_true] at e1
      exact ⟨s, e1, by have : s.size + 0 ≤ 60 := e2; omega, e3 s (by simp)⟩
  · rintro ⟨s, rfl, h2, h3⟩
    exact shGo_complete 60 [s] (by show s.size + 0 ≤ 60; omega) fun x hx => by
      rcases List.mem_cons.mp hx with rfl | hx
      · exact h3
      · cases hx
end K2

/-! K2d -/
set_option Elab.async false
set_option linter.all false
set_option autoImplicit false
set_option maxRecDepth 100000
set_option maxHeartbeats 4000000
namespace K2
open PySem PySem.Spec PyProof.Rows L2 Tk
abbrev sTB : Stmt := topS 29
theorem scTB : FnScope ["shape", "first", "one"] ["shape"] (defScope sTB) := ⟨rfl, rfl, rfl, by decide +kernel, rfl, by decide +kernel, by decide +kernel⟩
section
variable {P : Program} {w : World} {K : PySem.W.Frag} {mg : Str → Option Value} {base : Heap} {C : Addr}

def mTB (n : Nat) (xs : List Dx) (r : Res) : Prop := ∃ s : Sh, xs = [.d s.dat] ∧ s.depth ≤ n ∧ s.txt.length ≤ 100000 ∧ r = .ok (.d (.str s.txt))
theorem ok_tb {f : Addr} {fd : FuncData} (Df_ : Df K mg "text_by" sTB ["shape"] f fd) (M : MT P w K mg base C) (h_inner_of : Cal P w K mg base "inner_of" 2 ["shape"] (spF K C mInner)) : ∀ n, FnOk P w K mg base (L2.CX P w) (n + 3) f fd ["shape"] (spF K C (mTB n))
  | 0 => by
    refine fn_ok Df_.F scTB (fun xs r ⟨s, h, _⟩ => by rw [h]; rfl) fun cdv A outer s H E hr xs r ⟨sh, h1, hd, h3⟩ => ?_
    cases sh <;> exact absurd hd (by simp [Sh.depth])
  | n + 1 => by
    have h_text_by := Df_.cal (ok_tb Df_ M h_inner_of n)
    have h_inner_of := h_inner_of.mono (show 2 ≤ n + 3 by omega)
    refine fn_ok Df_.F scTB (fun xs r ⟨s, h, _⟩ => by rw [h]; rfl) fun cdv A outer s H E hr xs r ⟨sh, h1, hd, hl, h3⟩ => ?_
    subst h1 h3
    have hr1 : Room (n + 3) _ := hr
    refine ⟨_, (pss_cons (ps_if (pt_cmpR op_in_seq (pe_ix ix_seq (pv 0) pe_int (fun _ _ => rfl)) (pe_tup (pa_cons pe_str (pa_cons pe_str pa_nil))) rfl) (pss_one (ps_ret (pe_ix ix_seq (pv 0) pe_int (fun _ _ => rfl)))) pss_nil)
      (pss_cons (ps_if (pt_cmpR op_eq (pe_ix ix_seq (pv 0) pe_int (fun _ _ => rfl)) pe_str (nomark _)) (pss_one (ps_ret (pe_ix ix_seq (pv 0) pe_int (fun _ _ => rfl)))) pss_nil)
      (pss_cons (ps_set (i := 1) scTB.nd rfl (.inl rfl) (pe_ifExp (pt_cmpR op_eq (pe_ix ix_seq (pv 0) pe_int (fun _ _ => rfl)) pe_str (nomark _)) (pe_lst (pa_cons (pe_ix ix_seq (pv 0) pe_int (fun _ _ => rfl)) pa_nil)) (pe_lst pa_nil)))
      (pss_one (ps_ret (pe_op op_addStr (pe_op op_addStr (pe_op op_addStr (pe_ix ix_seq (pv 0) pe_int (fun _ _ => rfl)) pe_str) (pe_bm PySem.F.plainAttrs_str PySem.F.slot_str_join PySem.F.type_str_join mt_joinT pe_str (pa_cons (pe_op op_cat (pv 1) (pe_lc (own := [("one", 2)]) (g := gName 2) (tt := tYes) rfl scTB.nd (pi_tup (pe_cal h_inner_of hr1 pxE (pa_cons (pv 0) pa_nil))) (blkOk_by (N := ["shape", "first", "one"]) (sc := defScope sTB) (by decide +kernel)) (fun _ _ _ _ _ => pg_name (i := 2) scTB.nd rfl (.inl rfl)) (fun _ _ _ _ _ => pts_nil) (fun _ _ _ _ _ => (pe_cal h_text_by hr1 passL (pa_cons (pv 2) pa_nil))))) pa_nil))) pe_str)))))), fun c hc => ?_⟩
    obtain ⟨rfl, rfl, hn, hm⟩ := hc
    refine end_run (fun _ => True) ?_
    have n0 : 0 < c.n := by rw [hn]; exact (by decide : 0 < 3)
    have n1 : 1 < c.n := by rw [hn]; exact (by decide : 1 < 3)
    have n2 : 2 < c.n := by rw [hn]; exact (by decide : 2 < 3)
    have v0 : EvS c (S0 3 [.d sh.dat]) (tVar 0) (.d sh.dat) (S0 3 [.d sh.dat]) := ev_var n0 rfl
    have x0 : ∀ {S : Stt} {h : Str} {r : List PyData}, S.G[0]? = some (some (.x (.d (.tuple (.str h :: r))))) → EvS c S (tOp (rIx c.K) (tVar 0) (tC (.int 0))) (.d (.str h)) S := fun e => ev_op (ev_var n0 e) ev_int (rv_it 0 rfl)
    have x1 : ∀ {S : Stt} {h : PyData} {d : PyData} {r : List PyData}, S.G[0]? = some (some (.x (.d (.tuple (h :: d :: r))))) → EvS c S (tOp (rIx c.K) (tVar 0) (tC (.int 1))) (.d d) S := fun e => ev_op (ev_var n0 e) ev_int (rv_it 1 rfl)
    have t1 : ∀ {S : Stt} {h : Str} {r : List PyData}, S.G[0]? = some (some (.x (.d (.tuple (.str h :: r))))) → EvB c S (tTest (tOp (rIn c.K false) (tOp (rIx c.K) (tVar 0) (tC (.int 0))) (tTup (tCons (tC (.str "any")) (tCons (tC (.str "none")) tNil))))) (decide (h ∈ (["any", "none"] : List Str))) S := fun e =>
      eb_test (ev_op (x0 e) (ev_tup (ds := (["any", "none"] : List Str).map .str) (ea_cons ev_str (ea_cons ev_str ea_nil)) (by decide)) rv_inT)
    have t2 : ∀ {S : Stt} {h a : Str} {r : List PyData}, S.G[0]? = some (some (.x (.d (.tuple (.str h :: r))))) → EvB c S (tTest (tOp rEq (tOp (rIx c.K) (tVar 0) (tC (.int 0))) (tC (.str a)))) (decide (h = a)) S := fun e => eb_test (ev_op (x0 e) ev_str rv_eqS)
    cases sh with
    | any => exact run_stop (run_ifT (eb_is (t1 rfl) (by decide +kernel)) (run_ret (x0 rfl))) rfl
    | none => exact run_stop (run_ifT (eb_is (t1 rfl) (by decide +kernel)) (run_ret (x0 rfl))) rfl
    | kind k => exact run_seq (run_ifF (eb_is (t1 rfl) (by decide +kernel)) run_next) (run_stop (run_ifT (eb_is (t2 rfl) (by decide +kernel)) (run_ret (x1 rfl))) rfl)
    | both a b =>
      have hd' : max a.depth b.depth + 1 ≤ n + 1 := hd
      have ha : a.depth ≤ n := by omega
      have hb : b.depth ≤ n := by omega
      have hz : (Sh.both a b).txt.length = 8 + a.txt.length + b.txt.length := by
        show ((("both" : Str) ++ ("(" : Str) ++ (a.txt ++ (", " : Str) ++ b.txt)) ++ (")" : Str)).length = _
        simp only [len_app]
        rw [show ("both" : Str).length = 4 from by decide +kernel, show ("(" : Str).length = 1 from by decide +kernel, show (", " : Str).length = 2 from by decide +kernel, show (")" : Str).length = 1 from by decide +kernel]
        omega
      have f1 : ("both" : Str).length = 4 := by decide +kernel
      have f2 : ("(" : Str).length = 1 := by decide +kernel
      have f3 : (", " : Str).length = 2 := by decide +kernel
      have f4 : (")" : Str).length = 1 := by decide +kernel
      have sz : (100000 : Nat) ≤ sizeLine := by decide
      refine run_seq (run_ifF (eb_is (t1 rfl) (by decide +kernel)) run_next) (run_seq (run_ifF (eb_is (t2 rfl) (by decide +kernel)) run_next) ?_)
      refine run_seq (S1 := ⟨fun _ => True, [some (.x (.d (Sh.both a b).dat)), some (.x (.d (.list []))), none]⟩) (run_set (ev_ifF (eb_is (t2 rfl) (by decide +kernel)) (ev_lst (ds := []) ea_nil (Nat.zero_le _)))) ?_
      refine run_ret (ev_op (ev_op (ev_op (x0 rfl) ev_str (rv_addS (by rw [f1, f2]; decide))) (ev_join ev_str (ys := [a.txt, b.txt]) (ev_op (ev_var n1 rfl) (ev_lcMap (fun s : Sh => .d s.dat) (fun s => .str s.txt) [a, b] n2 rfl (ei_tup (ds := [a.dat, b.dat]) (ev_callF (m := mInner) (ea_cons (ev_var n0 rfl) ea_nil) ⟨"both", [a.dat, b.dat], rfl, rfl⟩)) (by simp) fun acc s hs => ?_) (rv_cat (by simp))) ?_) (rv_addS ?_)) ev_str (rv_addS ?_))
      · refine ev_callF (ea_cons (ev_var n2 rfl) ea_nil) ⟨s, rfl, ?_, ?_, rfl⟩
        · simp at hs
          rcases hs with rfl | rfl <;> assumption
        · simp at hs
          rcases hs with rfl | rfl <;> omega
      · simp
        omega
      · show (("both" : Str) ++ ("(" : Str)).length + (a.txt ++ (", " : Str) ++ b.txt).length ≤ _
        simp only [len_app]
        omega
      · show ((("both" : Str) ++ ("(" : Str)) ++ (a.txt ++ (", " : Str) ++ b.txt)).length + _ ≤ _
        simp only [len_app]
        omega
    | tied t a =>
      have hd' : a.depth + 1 ≤ n + 1 := hd
      have ha : a.depth ≤ n := by omega
      have f1 : ("tied" : Str).length = 4 := by decide +kernel
      have f2 : ("(" : Str).length = 1 := by decide +kernel
      have f3 : (", " : Str).length = 2 := by decide +kernel
      have f4 : (")" : Str).length = 1 := by decide +kernel
      have hz : (Sh.tied t a).txt.length = 8 + t.length + a.txt.length := by
        show ((("tied" : Str) ++ ("(" : Str) ++ (t ++ (", " : Str) ++ a.txt)) ++ (")" : Str)).length = _
        simp only [len_app]
        omega
      have sz : (100000 : Nat) ≤ sizeLine := by decide
      refine run_seq (run_ifF (eb_is (t1 rfl) (by decide +kernel)) run_next) (run_seq (run_ifF (eb_is (t2 rfl) (by decide +kernel)) run_next) ?_)
      refine run_seq (S1 := ⟨fun _ => True, [some (.x (.d (Sh.tied t a).dat)), some (.x (.d (.list [.str t]))), none]⟩) (run_set (ev_ifT (eb_is (t2 rfl) (by decide +kernel)) (ev_lst (ds := [.str t]) (ea_cons (x1 rfl) ea_nil) (by simp)))) ?_
      refine run_ret (ev_op (ev_op (ev_op (x0 rfl) ev_str (rv_addS (by rw [f1, f2]; decide))) (ev_join ev_str (ys := [t, a.txt]) (ev_op (ev_var n1 rfl) (ev_lcMap (fun s : Sh => .d s.dat) (fun s => .str s.txt) [a] n2 rfl (ei_tup (ds := [a.dat]) (ev_callF (m := mInner) (ea_cons (ev_var n0 rfl) ea_nil) ⟨"tied", [.str t, a.dat], rfl, rfl⟩)) (by simp) fun acc s hs => ?_) (rv_cat (by simp))) ?_) (rv_addS ?_)) ev_str (rv_addS ?_))
      · refine ev_callF (ea_cons (ev_var n2 rfl) ea_nil) ⟨s, rfl, ?_, ?_, rfl⟩
        · simp at hs
          rcases hs with rfl
          assumption
        · simp at hs
          rcases hs with rfl
          omega
      · simp
        omega
      · show (("tied" : Str) ++ ("(" : Str)).length + (t ++ (", " : Str) ++ a.txt).length ≤ _
        simp only [len_app]
        omega
      · show ((("tied" : Str) ++ ("(" : Str)) ++ (t ++ (", " : Str) ++ a.txt)).length + _ ≤ _
        simp only [len_app]
        omega
end
end K2

/-! K2e -/
set_option Elab.async false
set_option linter.all false
set_option autoImplicit false
set_option maxRecDepth 100000
set_option maxHeartbeats 4000000
namespace K2
open PySem PySem.Spec PyProof.Rows L2 Tk
/-! ### the reader, on the signs of a text -/
/-- the signs from i to j -/
def sl (l : List Nat) (i j : Nat) : Str := ⟨((l.drop i).take (j - i)).toArray⟩
theorem cut_sl (s : Str) (i j : Nat) : cutS s (some (i : Int)) (some (j : Int)) = sl s.cps.toList i j := by
  unfold cutS sl
  rw [sIx_some, sIx_some]
  congr 1
  congr 1
  have hl : s.cps.toList.length = s.length := Array.length_toList
  refine List.ext_getElem? fun k => ?_
  by_cases hi : i ≤ s.length
  · rw [Nat.min_eq_left hi, List.getElem?_take, List.getElem?_take, List.getElem?_drop]
    by_cases h1 : k < j - i
    · rw [if_pos h1]
      by_cases h2 : k < min j s.length - i
      · rw [if_pos h2]
      · rw [if_neg h2, List.getElem?_eq_none (by omega)]
    · rw [if_neg h1, if_neg (by omega)]
  · rw [List.drop_eq_nil_of_le (by omega), List.drop_eq_nil_of_le (by omega)]
    simp
def sgn : List Nat := (("(), " : Str).cps).toList
def nsg (k : Nat) : Bool := !decide (k ∈ sgn)
def wEnd (l : List Nat) (k : Nat) : Nat := k + ((l.drop k).takeWhile nsg).length
theorem wEnd_end {l : List Nat} {k : Nat} (h : l.length ≤ k) : wEnd l k = k := by
  unfold wEnd
  rw [List.drop_eq_nil_of_le h]
  rfl
theorem wEnd_sg {l : List Nat} {k c : Nat} (h : l[k]? = some c) (hs : nsg c = false) : wEnd l k = k := by
  have hk := (List.getElem?_eq_some_iff.mp h).1
  have hc := (List.getElem?_eq_some_iff.mp h).2
  unfold wEnd
  rw [List.drop_eq_getElem_cons hk, hc, List.takeWhile_cons, hs]
  rfl
theorem wEnd_on {l : List Nat} {k c : Nat} (h : l[k]? = some c) (hs : nsg c = true) : wEnd l k = wEnd l (k + 1) := by
  have hk := (List.getElem?_eq_some_iff.mp h).1
  have hc := (List.getElem?_eq_some_iff.mp h).2
  unfold wEnd
  rw [List.drop_eq_getElem_cons hk, hc, List.takeWhile_cons, hs]
  show k + (((l.drop (k + 1)).takeWhile nsg).length + 1) = _
  omega
def fin1 (l : List Nat) (x : Str) (d e : PyData) (q : Nat) : PyData := if sl l q (q + 1) = ")" then .tuple [.tuple [.str x, d, e], .int ((q + 1 : Nat) : Int)] else .none
mutual
/-- n levels may follow -/
def rdAt (ks ts : List Str) (l : List Nat) : Nat → Nat → Option (PyData × Nat)
  | 0, at_ => let e := wEnd l at_
    if sl l at_ e = "any" then some (.tuple [.str "any"], e) else if sl l at_ e = "none" then some (.tuple [.str "none"], e) else if sl l at_ e ∈ ks then some (.tuple [.str "kind", .str (sl l at_ e)], e) else none
  | n + 1, at_ => let e := wEnd l at_
    if sl l at_ e = "any" then some (.tuple [.str "any"], e) else if sl l at_ e = "none" then some (.tuple [.str "none"], e) else if sl l at_ e ∈ ks then some (.tuple [.str "kind", .str (sl l at_ e)], e)
    else if ¬ (sl l at_ e = "both" ∨ sl l at_ e = "tied") ∨ sl l e (e + 1) ≠ "(" then none else rdIn ks ts l n (e + 1) (sl l at_ e)
def rdIn (ks ts : List Str) (l : List Nat) : Nat → Nat → Str → Option (PyData × Nat)
  | n, at_, x => if x = "tied" then (if sl l at_ (wEnd l at_) ∈ ts then rdRest ks ts l n x (.str (sl l at_ (wEnd l at_))) (wEnd l at_) else none) else match rdAt ks ts l n at_ with
    | none => none
    | some (d, q) => rdRest ks ts l n x d q
def rdRest (ks ts : List Str) (l : List Nat) : Nat → Str → PyData → Nat → Option (PyData × Nat)
  | n, x, d, q => if sl l q (q + 2) = ", " then (match rdAt ks ts l n (q + 2) with
    | none => none
    | some (e, q2) => if sl l q2 (q2 + 1) = ")" then some (.tuple [.str x, d, e], q2 + 1) else none) else none
end
end K2

/-! K2f -/
set_option Elab.async false
set_option linter.all false
set_option autoImplicit false
set_option maxRecDepth 100000
set_option maxHeartbeats 4000000
namespace K2
open PySem PySem.Spec PyProof.Rows L2 Tk
abbrev sWA : Stmt := topS 30
theorem scWA : FnScope ["text", "at"] ["text", "at"] (defScope sWA) := ⟨rfl, rfl, rfl, by decide +kernel, rfl, by decide +kernel, by decide +kernel⟩
abbrev sRA : Stmt := topS 31
theorem scRA : FnScope ["words", "text", "at", "level", "end", "word"] ["words", "text", "at", "level"] (defScope sRA) := ⟨rfl, rfl, rfl, by decide +kernel, rfl, by decide +kernel, by decide +kernel⟩
abbrev sRI : Stmt := topS 32
theorem scRI : FnScope ["words", "text", "at", "level", "word", "found", "end", "read"] ["words", "text", "at", "level", "word"] (defScope sRI) := ⟨rfl, rfl, rfl, by decide +kernel, rfl, by decide +kernel, by decide +kernel⟩

theorem nat1 (k : Nat) : ((k : Int) + 1) = ((k + 1 : Nat) : Int) := rfl
theorem nat2 (k : Nat) : ((k : Int) + 2) = ((k + 2 : Nat) : Int) := rfl
def resD : Option (PyData × Nat) → PyData
  | none => .none
  | some (d, e) => .tuple [d, .int (e : Int)]
section
variable {P : Program} {w : World} {K : PySem.W.Frag} {mg : Str → Option Value} {base : Heap} {C : Addr}

def mWA (xs : List Dx) (r : Res) : Prop := ∃ (s : Str) (k : Nat), xs = [.d (.str s), .d (.int (k : Int))] ∧ s.length ≤ sizeLine ∧ r = .ok (.d (.int (wEnd s.cps.toList k : Int)))
theorem ok_wa {f : Addr} {fd : FuncData} (F : Fun K "word_at" "word_at" sWA f fd) (M : MT P w K mg base C) : FnOk P w K mg base (L2.CX P w) 2 f fd ["text", "at"] (spF K C mWA) := by
  refine fn_ok F scWA (fun xs r ⟨s, k, h, _⟩ => by rw [h]; rfl) fun cdv A outer s H E hr xs r ⟨tx, k, h1, hl, h3⟩ => ?_
  subst h1 h3
  obtain ⟨tg, gS⟩ := M.sg
  have hr1 : Room 1 _ := hr
  refine ⟨_, (pss_cons (ps_while pown (PW.pt (pw_and (pt_cmpR op_lt (pv 1) (pe_callB call_lenStr (by rfl) (M.B "len" (by decide)) boot_len (pa_cons (pv 0) pa_nil)) (nomark _)) (pw_and1 (pt_cmpR op_notSign (pe_ix ix_seq (pv 0) (pv 1) (fun _ _ => rfl)) (pe_glob (v := .str "(), ") (by rfl) gS ⟨_, rfl⟩) rfl)))) (pss_one (ps_set (i := 1) scWA.nd rfl (.inl rfl) (pe_op op_add (pv 1) pe_int))))
      (pss_one (ps_ret (pv 1)))), fun c hc => ?_⟩
  obtain ⟨rfl, rfl, hn, hm⟩ := hc
  refine end_run (fun _ => True) ?_
  have n0 : 0 < c.n := by rw [hn]; exact (by decide : 0 < 2)
  have n1 : 1 < c.n := by rw [hn]; exact (by decide : 1 < 2)
  have hll : tx.cps.toList.length = tx.length := Array.length_toList
  refine run_whileQ (n := tx.length - k) (fun n S => ∃ j : Nat, S = ⟨fun _ => True, [some (.x (.d (.str tx))), some (.x (.d (.int (j : Int))))]⟩ ∧ n = tx.length - j ∧ wEnd tx.cps.toList j = wEnd tx.cps.toList k) (fun S => S = ⟨fun _ => True, [some (.x (.d (.str tx))), some (.x (.d (.int (wEnd tx.cps.toList k : Int))))]⟩)
    ⟨k, rfl, rfl, rfl⟩ ?_ fun S hS => by rw [hS]; exact run_ret (ev_var n1 rfl)
  rintro n S ⟨j, rfl, rfl, hv⟩
  have t1 : EvB c ⟨fun _ => True, [some (.x (.d (.str tx))), some (.x (.d (.int (j : Int))))]⟩ (tTest (tOp (rI0 fun i j => .bl (decide (i < j))) (tVar 1) (tCB rLenStr (tCons (tVar 0) tNil)))) (decide ((j : Int) < (tx.length : Int))) ⟨fun _ => True, [some (.x (.d (.str tx))), some (.x (.d (.int (j : Int))))]⟩ :=
    eb_test (ev_op (ev_var n1 rfl) (ev_lenS (ev_var n0 rfl) hl) rv_cmp)
  by_cases hj : j < tx.length
  · obtain ⟨k', hk⟩ : ∃ k', tx.cps.toList[j]? = some k' := ⟨_, List.getElem?_eq_getElem (by rw [hll]; exact hj)⟩
    have t2 : EvB c ⟨fun _ => True, [some (.x (.d (.str tx))), some (.x (.d (.int (j : Int))))]⟩ (tTest (tOp (rSign true) (tOp (rIx c.K) (tVar 0) (tVar 1)) (tC (.str "(), ")))) (nsg k') ⟨fun _ => True, [some (.x (.d (.str tx))), some (.x (.d (.int (j : Int))))]⟩ :=
      eb_test (ev_op (ev_op (ev_var n0 rfl) (ev_var n1 rfl) (rv_ixS (k := k') hl (by unfold atI; rw [hll, ixN_nat hj]; exact hk))) ev_str rv_sign)
    have t12 := eb_and1 (eb_is t1 (decide_eq_true (by omega))) t2
    cases hs : nsg k' with
    | true =>
      rw [hs] at t12
      exact .step (tx.length - (j + 1)) t12 (run_set (ev_op (ev_var n1 rfl) ev_int rv_int)) (by omega) ⟨j + 1, rfl, rfl, by rw [← hv, wEnd_on hk hs]⟩
    | false =>
      rw [hs] at t12
      exact .done t12 (by rw [← hv, wEnd_sg hk hs])
  · exact .done (eb_and0 (eb_is t1 (decide_eq_false (by omega)))) (by rw [← hv, wEnd_end (by rw [hll]; omega)])
theorem rdAt_eq (ks ts : List Str) (l : List Nat) (n k : Nat) : rdAt ks ts l n k = if sl l k (wEnd l k) = "any" then some (.tuple [.str "any"], wEnd l k) else if sl l k (wEnd l k) = "none" then some (.tuple [.str "none"], wEnd l k) else if sl l k (wEnd l k) ∈ ks then some (.tuple [.str "kind", .str (sl l k (wEnd l k))], wEnd l k)
    else if ¬ (sl l k (wEnd l k) = "both" ∨ sl l k (wEnd l k) = "tied") then none else if sl l (wEnd l k) (wEnd l k + 1) ≠ "(" then none else match n with
      | 0 => none
      | n + 1 => rdIn ks ts l n (wEnd l k + 1) (sl l k (wEnd l k)) := by
  cases n with
  | zero =>
    rw [rdAt]
    simp only [ite_self]
  | succ n =>
    rw [rdAt]
    simp only []
    by_cases h3 : sl l k (wEnd l k) = "any"
    · rw [if_pos h3, if_pos h3]
    · rw [if_neg h3, if_neg h3]
      by_cases h4 : sl l k (wEnd l k) = "none"
      · rw [if_pos h4, if_pos h4]
      · rw [if_neg h4, if_neg h4]
        by_cases h5 : sl l k (wEnd l k) ∈ ks
        · rw [if_pos h5, if_pos h5]
        · rw [if_neg h5, if_neg h5]
          by_cases h1 : sl l k (wEnd l k) = "both" ∨ sl l k (wEnd l k) = "tied"
          · by_cases h2 : sl l (wEnd l k) (wEnd l k + 1) = "("
            · rw [if_neg (show ¬ (¬ (sl l k (wEnd l k) = "both" ∨ sl l k (wEnd l k) = "tied") ∨ sl l (wEnd l k) (wEnd l k + 1) ≠ "(") from fun z => z.elim (fun z => z h1) (fun z => z h2)), if_neg (fun z => z h1), if_neg (fun z => z h2)]
            · rw [if_pos (Or.inr h2 : ¬ (sl l k (wEnd l k) = "both" ∨ sl l k (wEnd l k) = "tied") ∨ sl l (wEnd l k) (wEnd l k + 1) ≠ "("), if_neg (fun z => z h1), if_pos h2]
          · rw [if_pos (Or.inl h1 : ¬ (sl l k (wEnd l k) = "both" ∨ sl l k (wEnd l k) = "tied") ∨ sl l (wEnd l k) (wEnd l k + 1) ≠ "("), if_pos h1]
def mRA (n : Nat) (xs : List Dx) (r : Res) : Prop := ∃ (ks ts : List Str) (s : Str) (k : Nat), xs = [.w ks ts, .d (.str s), .d (.int (k : Int)), .d (.int (60 - (n : Int)))] ∧ s.length ≤ sizeLine ∧ r = .ok (.d (resD (rdAt ks ts s.cps.toList n k)))
def mRI : Nat → List Dx → Res → Prop
  | 0, _, _ => False
  | n + 1, xs, r => ∃ (ks ts : List Str) (s x : Str) (k : Nat), xs = [.w ks ts, .d (.str s), .d (.int (k : Int)), .d (.int (60 - ((n + 1 : Nat) : Int))), .d (.str x)] ∧ (x = "both" ∨ x = "tied") ∧ s.length ≤ sizeLine ∧ r = .ok (.d (resD (rdIn ks ts s.cps.toList n k x)))
theorem ok_ra {f : Addr} {fd : FuncData} (F : Fun K "read_at" "read_at" sRA f fd) (M : MT P w K mg base C) (h_word_at : Cal P w K mg base "word_at" 2 ["text", "at"] (spF K C mWA)) (n : Nat) (h_read_inner : Cal P w K mg base "read_inner" (2 * n + 3) ["words", "text", "at", "level", "word"] (spF K C (mRI n))) : FnOk P w K mg base (L2.CX P w) (2 * n + 4) f fd ["words", "text", "at", "level"] (spF K C (mRA n)) := by
  refine fn_ok F scRA (fun xs r ⟨_, _, _, _, h, _⟩ => by rw [h]; rfl) fun cdv A outer s H E hr xs r ⟨ks, ts, tx, k, h1, hl, h3⟩ => ?_
  subst h1 h3
  obtain ⟨tm, gM⟩ := M.ms
  obtain ⟨dA, gA, sA⟩ := M.an
  obtain ⟨dN, gN, sN⟩ := M.no
  have hr1 : Room (2 * n + 3) _ := hr
  have h_word_at := h_word_at.mono (show 2 ≤ 2 * n + 3 by omega)
  have WTh := M.W
  refine ⟨_, (pss_cons (ps_set (i := 4) scRA.nd rfl (.inl rfl) (pe_cal h_word_at hr1 pxE (pa_cons (pv 1) (pa_cons (pv 2) pa_nil))))
      (pss_cons (ps_set (i := 5) scRA.nd rfl (.inl rfl) (pe_slice sl_str (pv 1) (po_some (pv 2)) (po_some (pv 4))))
      (pss_cons (ps_if (pt_cmpR op_in_seq (pv 5) (pe_tup (pa_cons pe_str (pa_cons pe_str pa_nil))) rfl) (pss_one (ps_ret (pe_tup (pa_cons (pe_ifExp (pt_cmpR op_eq (pv 5) pe_str (nomark _)) (pe_glob (v := .ref dA) (by rfl) gA rfl) (pe_glob (v := .ref dN) (by rfl) gN rfl)) (pa_cons (pv 4) pa_nil))))) pss_nil)
      (pss_cons (ps_if (pt_cmpR op_in_seq (pv 5) (pe_kinds WTh (hr1.mono (by omega)) (pv 0)) rfl) (pss_one (ps_ret (pe_tup (pa_cons (pe_tup (pa_cons pe_str (pa_cons (pv 5) pa_nil))) (pa_cons (pv 4) pa_nil))))) pss_nil)
      (pss_cons (ps_if (PW.pt (pw_or (pt_cmpR op_notIn_seq (pv 5) (pe_tup (pa_cons pe_str (pa_cons pe_str pa_nil))) rfl) (pw_or (pt_cmpR op_ne (pe_slice sl_str (pv 1) (po_some (pv 4)) (po_some (pe_op op_add (pv 4) pe_int))) pe_str (nomark _)) (pw_or1 (pt_cmpR op_eq (pv 3) (pe_glob (v := .int 60) (by rfl) gM ⟨_, rfl⟩) (nomark _)))))) (pss_one (ps_ret pe_non)) pss_nil)
      (pss_one (ps_ret (pe_cal h_read_inner hr1 pxE (pa_cons (pv 0) (pa_cons (pv 1) (pa_cons (pe_op op_add (pv 4) pe_int) (pa_cons (pv 3) (pa_cons (pv 5) pa_nil))))))))))))), fun c hc => ?_⟩
  obtain ⟨rfl, rfl, hn, hm⟩ := hc
  refine end_run (fun _ => True) ?_
  have n0 : 0 < c.n := by rw [hn]; exact (by decide : 0 < 6)
  have n1 : 1 < c.n := by rw [hn]; exact (by decide : 1 < 6)
  have n2 : 2 < c.n := by rw [hn]; exact (by decide : 2 < 6)
  have n3 : 3 < c.n := by rw [hn]; exact (by decide : 3 < 6)
  have n4 : 4 < c.n := by rw [hn]; exact (by decide : 4 < 6)
  have n5 : 5 < c.n := by rw [hn]; exact (by decide : 5 < 6)
  rw [rdAt_eq]
  refine run_seq (run_set (ev_callF (ea_cons (ev_var n1 rfl) (ea_cons (ev_var n2 rfl) ea_nil)) ⟨tx, k, rfl, hl, rfl⟩)) (run_seq (run_set (ev_is (ev_slS (ev_var n1 rfl) (ep_some (ev_var n2 rfl)) (ep_some (ev_var n4 rfl)) hl) (by rw [cut_sl]))) ?_)
  generalize sl tx.cps.toList k (wEnd tx.cps.toList k) = wd
  generalize wEnd tx.cps.toList k = e
  show RunS c ⟨fun _ => True, [some (.x (.w ks ts)), some (.x (.d (.str tx))), some (.x (.d (.int (k : Int)))), some (.x (.d (.int (60 - (n : Int))))), some (.x (.d (.int (e : Int)))), some (.x (.d (.str wd)))]⟩ _ _
  obtain ⟨S, hS⟩ : ∃ S : Stt, S = ⟨fun _ => True, [some (.x (.w ks ts)), some (.x (.d (.str tx))), some (.x (.d (.int (k : Int)))), some (.x (.d (.int (60 - (n : Int))))), some (.x (.d (.int (e : Int)))), some (.x (.d (.str wd)))]⟩ := ⟨_, rfl⟩
  rw [← hS]
  have hW : S.W = fun _ => True := by rw [hS]
  have v0 : EvS c S (tVar 0) (.w ks ts) S := ev_var n0 (by rw [hS]; rfl)
  have v1 : EvS c S (tVar 1) (.d (.str tx)) S := ev_var n1 (by rw [hS]; rfl)
  have v3 : EvS c S (tVar 3) (.d (.int (60 - (n : Int)))) S := ev_var n3 (by rw [hS]; rfl)
  have v4 : EvS c S (tVar 4) (.d (.int (e : Int))) S := ev_var n4 (by rw [hS]; rfl)
  have v5 : EvS c S (tVar 5) (.d (.str wd)) S := ev_var n5 (by rw [hS]; rfl)
  have t1 : EvB c S (tTest (tOp (rIn c.K false) (tVar 5) (tTup (tCons (tC (.str "any")) (tCons (tC (.str "none")) tNil))))) (decide (wd ∈ (["any", "none"] : List Str))) S :=
    eb_test (ev_op v5 (ev_tup (ds := (["any", "none"] : List Str).map .str) (ea_cons ev_str (ea_cons ev_str ea_nil)) (by decide)) rv_inT)
  have t2 : ∀ x : Str, EvB c S (tTest (tOp rEq (tVar 5) (tC (.str x)))) (decide (wd = x)) S := fun x => eb_test (ev_op v5 ev_str rv_eqS)
  have rt : ∀ {te : TE} {x : Dx}, EvS c S te x S → RunS c S (tRet te) (.rt x fun _ => True) := fun h => by
    have := run_ret h
    rw [hW] at this
    exact this
  by_cases ha : wd = "any"
  · rw [if_pos ha]
    refine run_stop (run_ifT (eb_is t1 (decide_eq_true (by rw [ha]; simp))) (rt ?_)) rfl
    exact ev_tup (ds := [.tuple [.str "any"], .int (e : Int)]) (ea_cons (ev_ifT (eb_is (t2 "any") (decide_eq_true ha)) (ev_glob sA fun H => .cons (.str _) .nil)) (ea_cons v4 ea_nil)) (by simp)
  · rw [if_neg ha]
    by_cases hb : wd = "none"
    · rw [if_pos hb]
      refine run_stop (run_ifT (eb_is t1 (decide_eq_true (by rw [hb]; simp))) (rt ?_)) rfl
      exact ev_tup (ds := [.tuple [.str "none"], .int (e : Int)]) (ea_cons (ev_ifF (eb_is (t2 "any") (decide_eq_false ha)) (ev_glob sN fun H => .cons (.str _) .nil)) (ea_cons v4 ea_nil)) (by simp)
    · rw [if_neg hb]
      refine run_seq (run_ifF (eb_is t1 (decide_eq_false (by simp [ha, hb]))) run_next) ?_
      have t3 : EvB c S (tTest (tOp (rIn c.K false) (tVar 5) (tProp c.C (getSp c.C "w_kinds") [] E0 (tVar 0)))) (decide (wd ∈ ks)) S := eb_test (ev_op v5 (ev_kinds v0) rv_inT)
      by_cases hk : wd ∈ ks
      · rw [if_pos hk]
        refine run_stop (run_ifT (eb_is t3 (decide_eq_true hk)) (rt ?_)) rfl
        exact ev_tup (ds := [.tuple [.str "kind", .str wd], .int (e : Int)]) (ea_cons (ev_tup (ds := [.str "kind", .str wd]) (ea_cons ev_str (ea_cons v5 ea_nil)) (by simp)) (ea_cons v4 ea_nil)) (by simp)
      · rw [if_neg hk]
        refine run_seq (run_ifF (eb_is t3 (decide_eq_false hk)) run_next) ?_
        have t4 : EvB c S (tTest (tOp (rIn c.K true) (tVar 5) (tTup (tCons (tC (.str "both")) (tCons (tC (.str "tied")) tNil))))) (!decide (wd ∈ (["both", "tied"] : List Str))) S :=
          eb_test (ev_op v5 (ev_tup (ds := (["both", "tied"] : List Str).map .str) (ea_cons ev_str (ea_cons ev_str ea_nil)) (by decide)) rv_inT)
        by_cases hbt : wd = "both" ∨ wd = "tied"
        · rw [if_neg (fun z => z hbt)]
          have t4' := eb_is t4 (show (!decide (wd ∈ (["both", "tied"] : List Str))) = false by rw [decide_eq_true (by simpa using hbt)]; rfl)
          have t5 : EvB c S (tTest (tOp rNe (tSl rSlS (tVar 1) (tPart (tVar 4)) (tPart (tOp (rI0 fun i j => .int (i + j)) (tVar 4) (tC (.int 1))))) (tC (.str "(")))) (!decide (sl tx.cps.toList e (e + 1) = "(")) S :=
            eb_test (ev_op (ev_is (ev_slS v1 (ep_some v4) (ep_some (ev_op v4 ev_int rv_int)) hl) (by rw [nat1, cut_sl])) ev_str rv_neS)
          by_cases hp : sl tx.cps.toList e (e + 1) = "("
          · rw [if_neg (fun z => z hp)]
            have t5' := eb_is t5 (show (!decide (sl tx.cps.toList e (e + 1) = "(")) = false by rw [decide_eq_true hp]; rfl)
            have t6 : EvB c S (tTest (tOp rEq (tVar 3) (tC (.int 60)))) (decide (60 - (n : Int) = 60)) S := eb_test (ev_op v3 ev_int rv_eqI)
            cases n with
            | zero => exact run_stop (run_ifT (eb_or0 t4' (eb_or0 t5' (eb_is t6 (decide_eq_true (by omega))))) (rt ev_non)) rfl
            | succ n => exact run_seq (run_ifF (eb_or0 t4' (eb_or0 t5' (eb_is t6 (decide_eq_false (by omega))))) run_next) (rt (ev_callF (ea_cons v0 (ea_cons v1 (ea_cons (ev_op v4 ev_int rv_int) (ea_cons v3 (ea_cons v5 ea_nil))))) ⟨ks, ts, tx, wd, e + 1, rfl, hbt, hl, rfl⟩))
          · rw [if_pos hp]
            exact run_stop (run_ifT (eb_or0 t4' (eb_or1 (eb_is t5 (by rw [decide_eq_false hp]; rfl)))) (rt ev_non)) rfl
        · rw [if_pos hbt]
          exact run_stop (run_ifT (eb_or1 (eb_is t4 (by rw [decide_eq_false (by simpa using hbt)]; rfl))) (rt ev_non)) rfl
end
end K2

/-! K2g -/
set_option Elab.async false
set_option linter.all false
set_option autoImplicit false
set_option maxRecDepth 100000
set_option maxHeartbeats 4000000
namespace K2
open PySem PySem.Spec PyProof.Rows L2 Tk
def riS (ks ts : List Str) (tx : Str) (n : Nat) (x : Str) (k : Nat) (fnd : List PyData) (e6 e7 : Option En) : Stt := ⟨fun _ => True, [some (.x (.w ks ts)), some (.x (.d (.str tx))), some (.x (.d (.int (k : Int)))), some (.x (.d (.int (60 - ((n + 1 : Nat) : Int))))), some (.x (.d (.str x))), some (.own fnd), e6, e7]⟩
section
variable {P : Program} {w : World} {K : PySem.W.Frag} {mg : Str → Option Value} {base : Heap} {C : Addr}

theorem ok_ri0 {f : Addr} {fd : FuncData} (F : Fun K "read_inner" "read_inner" sRI f fd) : FnOk P w K mg base (L2.CX P w) 3 f fd ["words", "text", "at", "level", "word"] (spF K C (mRI 0)) :=
  fn_ok F scRI (fun _ _ h => h.elim) fun _ _ _ _ _ _ _ _ _ h => h.elim
theorem ok_ri {f : Addr} {fd : FuncData} (F : Fun K "read_inner" "read_inner" sRI f fd) (M : MT P w K mg base C) (h_word_at : Cal P w K mg base "word_at" 2 ["text", "at"] (spF K C mWA)) (n : Nat) (h_read_at : Cal P w K mg base "read_at" (2 * n + 4) ["words", "text", "at", "level"] (spF K C (mRA n))) : FnOk P w K mg base (L2.CX P w) (2 * n + 5) f fd ["words", "text", "at", "level", "word"] (spF K C (mRI (n + 1))) := by
  refine fn_ok F scRI (fun xs r ⟨_, _, _, _, _, h, _⟩ => by rw [h]; rfl) fun cdv A outer s H E hr xs r ⟨ks, ts, tx, x, k, h1, hx, hl, h3⟩ => ?_
  subst h1 h3
  have hr1 : Room (2 * n + 4) _ := hr
  have h_word_at := h_word_at.mono (show 2 ≤ 2 * n + 4 by omega)
  have WTh := M.W
  refine ⟨_, (pss_cons (ps_set (i := 5) scRI.nd rfl (.inl rfl) (pe_lst (pa_cons (pv 4) pa_nil)))
      (pss_cons (ps_if (pt_cmpR op_eq (pv 4) pe_str (nomark _)) (pss_cons (ps_set (i := 6) scRI.nd rfl (.inl rfl) (pe_cal h_word_at hr1 pxE (pa_cons (pv 1) (pa_cons (pv 2) pa_nil))))
      (pss_cons (ps_if (pt_cmpR op_notIn_seq (pe_slice sl_str (pv 1) (po_some (pv 2)) (po_some (pv 6))) (pe_ties WTh (hr1.mono (by omega)) (pv 0)) rfl) (pss_one (ps_ret pe_non)) pss_nil)
      (pss_cons (ps_expr (pe_bm PySem.F.plainAttrs_list PySem.F.slot_list_append PySem.F.type_list_append mt_append (pv 5) (pa_cons (pe_slice sl_str (pv 1) (po_some (pv 2)) (po_some (pv 6))) pa_nil)))
      (pss_one (ps_set (i := 2) scRI.nd rfl (.inl rfl) (pv 6)))))) pss_nil)
      (pss_cons (ps_while pown (pt_cmpR op_lt (pe_callB call_lenSq (by rfl) (M.B "len" (by decide)) boot_len (pa_cons (pv 5) pa_nil)) pe_int (nomark _)) (pss_cons (ps_if (pt_cmpR op_eq (pe_callB call_lenSq (by rfl) (M.B "len" (by decide)) boot_len (pa_cons (pv 5) pa_nil)) pe_int (nomark _)) (pss_cons (ps_if (pt_cmpR op_ne (pe_slice sl_str (pv 1) (po_some (pv 2)) (po_some (pe_op op_add (pv 2) pe_int))) pe_str (nomark _)) (pss_one (ps_ret pe_non)) pss_nil)
      (pss_one (ps_set (i := 2) scRI.nd rfl (.inl rfl) (pe_op op_add (pv 2) pe_int)))) pss_nil)
      (pss_cons (ps_set (i := 7) scRI.nd rfl (.inl rfl) (pe_cal h_read_at hr1 pxE (pa_cons (pv 0) (pa_cons (pv 1) (pa_cons (pv 2) (pa_cons (pe_op op_add (pv 3) pe_int) pa_nil))))))
      (pss_cons (ps_if (pt_cmpR op_isN1 (pv 7) pe_non (nomark _)) (pss_one (ps_ret pe_non)) pss_nil)
      (pss_cons (ps_expr (pe_bm PySem.F.plainAttrs_list PySem.F.slot_list_append PySem.F.type_list_append mt_append (pv 5) (pa_cons (pe_ix ix_seq (pv 7) pe_int (fun _ _ => rfl)) pa_nil)))
      (pss_one (ps_set (i := 2) scRI.nd rfl (.inl rfl) (pe_ix ix_seq (pv 7) pe_int (fun _ _ => rfl)))))))))
      (pss_one (ps_ret (pe_ifExp (pt_cmpR op_eq (pe_slice sl_str (pv 1) (po_some (pv 2)) (po_some (pe_op op_add (pv 2) pe_int))) pe_str (nomark _)) (pe_tup (pa_cons (pe_callTy call_tupOf (by rfl) (M.B "tuple" (by decide)) (by decide +kernel) (pa_cons (pv 5) pa_nil)) (pa_cons (pe_op op_add (pv 2) pe_int) pa_nil))) pe_non)))))), fun c hc => ?_⟩
  obtain ⟨rfl, rfl, hn, hm⟩ := hc
  refine end_run (fun _ => True) ?_
  have n0 : 0 < c.n := by rw [hn]; exact (by decide : 0 < 8)
  have n1 : 1 < c.n := by rw [hn]; exact (by decide : 1 < 8)
  have n2 : 2 < c.n := by rw [hn]; exact (by decide : 2 < 8)
  have n3 : 3 < c.n := by rw [hn]; exact (by decide : 3 < 8)
  have n4 : 4 < c.n := by rw [hn]; exact (by decide : 4 < 8)
  have n5 : 5 < c.n := by rw [hn]; exact (by decide : 5 < 8)
  have n6 : 6 < c.n := by rw [hn]; exact (by decide : 6 < 8)
  have n7 : 7 < c.n := by rw [hn]; exact (by decide : 7 < 8)
  -- the loop's parts
  have slv : ∀ (q j : Nat) (fnd : List PyData) (e6 e7 : Option En), EvS c (riS ks ts tx n x q fnd e6 e7) (tSl rSlS (tVar 1) (tPart (tVar 2)) (tPart (tOp (rI0 fun i j => .int (i + j)) (tVar 2) (tC (.int (j : Int)))))) (.d (.str (sl tx.cps.toList q (q + j)))) (riS ks ts tx n x q fnd e6 e7) := fun q j fnd e6 e7 =>
    ev_is (ev_slS (ev_var n1 rfl) (ep_some (ev_var n2 rfl)) (ep_some (ev_op (ev_var n2 rfl) ev_int rv_int)) hl) (by rw [show (q : Int) + (j : Int) = ((q + j : Nat) : Int) from rfl, cut_sl])
  have bdA : ∀ (q : Nat) (fnd : List PyData) (e6 e7 : Option En), RunS c (riS ks ts tx n x q fnd e6 e7) (tAsg (tCall (spF c.K c.C (mRA n)) [] E (tCons (tVar 0) (tCons (tVar 1) (tCons (tVar 2) (tCons (tOp (rI0 fun i j => .int (i + j)) (tVar 3) (tC (.int 1))) tNil))))) (gName 7)) (.nx (riS ks ts tx n x q fnd e6 (some (.x (.d (resD (rdAt ks ts tx.cps.toList n q))))))) := fun q fnd e6 e7 =>
    run_set (ev_callF (ea_cons (ev_var n0 rfl) (ea_cons (ev_var n1 rfl) (ea_cons (ev_var n2 rfl) (ea_cons (ev_op (ev_var n3 rfl) ev_int rv_int) ea_nil)))) ⟨ks, ts, tx, q, by rw [show (60 - ((n + 1 : Nat) : Int) + 1) = 60 - (n : Int) by omega], hl, rfl⟩)
  have bd0 : ∀ (q : Nat) (fnd : List PyData) (e6 e7 : Option En), rdAt ks ts tx.cps.toList n q = none → RunS c (riS ks ts tx n x q fnd e6 e7) (tSeq (tAsg (tCall (spF c.K c.C (mRA n)) [] E (tCons (tVar 0) (tCons (tVar 1) (tCons (tVar 2) (tCons (tOp (rI0 fun i j => .int (i + j)) (tVar 3) (tC (.int 1))) tNil))))) (gName 7))
        (tSeq (tIfS (tTest (tOp rIsN (tVar 7) (tC .non))) (tRet (tC .non)) tNext)
        (tSeq (tDrop (tBM c.K "list" rAppend (tVar 5) (tCons (tOp (rIx c.K) (tVar 7) (tC (.int 0))) tNil)))
        (tAsg (tOp (rIx c.K) (tVar 7) (tC (.int 1))) (gName 2))))) (.rt (.d .none) fun _ => True) := fun q fnd e6 e7 h => by
    have p := bdA q fnd e6 e7
    rw [h] at p
    exact run_seq p (run_stop (run_ifT (eb_test (ev_op (ev_var n7 rfl) ev_non rv_isN)) (run_ret ev_non)) rfl)
  have bd1 : ∀ (q : Nat) (fnd : List PyData) (e6 e7 : Option En) (d : PyData) (q2 : Nat), fnd.length < 3 → rdAt ks ts tx.cps.toList n q = some (d, q2) → RunS c (riS ks ts tx n x q fnd e6 e7) (tSeq (tAsg (tCall (spF c.K c.C (mRA n)) [] E (tCons (tVar 0) (tCons (tVar 1) (tCons (tVar 2) (tCons (tOp (rI0 fun i j => .int (i + j)) (tVar 3) (tC (.int 1))) tNil))))) (gName 7))
        (tSeq (tIfS (tTest (tOp rIsN (tVar 7) (tC .non))) (tRet (tC .non)) tNext)
        (tSeq (tDrop (tBM c.K "list" rAppend (tVar 5) (tCons (tOp (rIx c.K) (tVar 7) (tC (.int 0))) tNil)))
        (tAsg (tOp (rIx c.K) (tVar 7) (tC (.int 1))) (gName 2))))) (.nx (riS ks ts tx n x q2 (fnd ++ [d]) e6 (some (.x (.d (.tuple [d, .int (q2 : Int)])))))) := fun q fnd e6 e7 d q2 hf h => by
    have p := bdA q fnd e6 e7
    rw [h] at p
    exact run_seq p (run_seq (run_ifF (eb_test (ev_op (ev_var n7 rfl) ev_non rv_isN)) run_next) (run_seq (run_drop (ev_app n5 rfl (ev_op (ev_var n7 rfl) ev_int (rv_it 0 rfl)) rfl (by omega))) (run_set (ev_op (ev_var n7 rfl) ev_int (rv_it 1 rfl)))))
  have ln : ∀ (q : Nat) (fnd : List PyData) (e6 e7 : Option En), EvS c (riS ks ts tx n x q fnd e6 e7) (tCB (rLenSq c.K) (tCons (tVar 5) tNil)) (.d (.int (fnd.length : Int))) (riS ks ts tx n x q fnd e6 e7) := fun q fnd e6 e7 => ev_lenO n5 rfl
  generalize hgo : resD (rdIn ks ts tx.cps.toList n k x) = goal
  have key : ∀ {tu : TS} (m : Nat) (S : Stt), ((m = 2 ∧ ∃ q e6 e7, S = riS ks ts tx n x q [.str x] e6 e7 ∧ goal = resD (match rdAt ks ts tx.cps.toList n q with
        | none => none
        | some (d, q) => rdRest ks ts tx.cps.toList n x d q)) ∨
      (m = 1 ∧ ∃ d q e6 e7, S = riS ks ts tx n x q [.str x, d] e6 e7 ∧ goal = resD (rdRest ks ts tx.cps.toList n x d q)) ∨
      (m = 0 ∧ ∃ d e q e6 e7, S = riS ks ts tx n x q [.str x, d, e] e6 e7 ∧ goal = resD (if sl tx.cps.toList q (q + 1) = ")" then some (.tuple [.str x, d, e], q + 1) else none))) →
      (∀ d e q e6 e7, goal = resD (if sl tx.cps.toList q (q + 1) = ")" then some (.tuple [.str x, d, e], q + 1) else none) → RunS c (riS ks ts tx n x q [.str x, d, e] e6 e7) tu (.rt (.d goal) fun _ => True)) →
      RunS c S (tSeq (tWhile (tTest (tOp (rI0 fun i j => .bl (decide (i < j))) (tCB (rLenSq c.K) (tCons (tVar 5) tNil)) (tC (.int 3)))) (tSeq (tIfS (tTest (tOp rEq (tCB (rLenSq c.K) (tCons (tVar 5) tNil)) (tC (.int 2)))) (tSeq (tIfS (tTest (tOp rNe (tSl rSlS (tVar 1) (tPart (tVar 2)) (tPart (tOp (rI0 fun i j => .int (i + j)) (tVar 2) (tC (.int 2))))) (tC (.str ", ")))) (tRet (tC .non)) tNext) (tAsg (tOp (rI0 fun i j => .int (i + j)) (tVar 2) (tC (.int 2))) (gName 2))) tNext)
        (tSeq (tAsg (tCall (spF c.K c.C (mRA n)) [] E (tCons (tVar 0) (tCons (tVar 1) (tCons (tVar 2) (tCons (tOp (rI0 fun i j => .int (i + j)) (tVar 3) (tC (.int 1))) tNil))))) (gName 7))
        (tSeq (tIfS (tTest (tOp rIsN (tVar 7) (tC .non))) (tRet (tC .non)) tNext)
        (tSeq (tDrop (tBM c.K "list" rAppend (tVar 5) (tCons (tOp (rIx c.K) (tVar 7) (tC (.int 0))) tNil)))
        (tAsg (tOp (rIx c.K) (tVar 7) (tC (.int 1))) (gName 2))))))) tu) (.rt (.d goal) fun _ => True) := by
    intro tu m S hI fin
    refine run_whileQ (n := m) (fun m S => ((m = 2 ∧ ∃ q e6 e7, S = riS ks ts tx n x q [.str x] e6 e7 ∧ goal = resD (match rdAt ks ts tx.cps.toList n q with
        | none => none
        | some (d, q) => rdRest ks ts tx.cps.toList n x d q)) ∨
      (m = 1 ∧ ∃ d q e6 e7, S = riS ks ts tx n x q [.str x, d] e6 e7 ∧ goal = resD (rdRest ks ts tx.cps.toList n x d q)) ∨
      (m = 0 ∧ ∃ d e q e6 e7, S = riS ks ts tx n x q [.str x, d, e] e6 e7 ∧ goal = resD (if sl tx.cps.toList q (q + 1) = ")" then some (.tuple [.str x, d, e], q + 1) else none))))
      (fun S => ∃ d e q e6 e7, S = riS ks ts tx n x q [.str x, d, e] e6 e7 ∧ goal = resD (if sl tx.cps.toList q (q + 1) = ")" then some (.tuple [.str x, d, e], q + 1) else none)) hI ?_ fun S ⟨d, e, q, e6, e7, h1, h2⟩ => by
        rw [h1]
        exact fin d e q e6 e7 h2
    rintro m S (⟨rfl, q, e6, e7, rfl, hg⟩ | ⟨rfl, d, q, e6, e7, rfl, hg⟩ | ⟨rfl, d, e, q, e6, e7, rfl, hg⟩)
    · have t := eb_test (ev_op (ln q [.str x] e6 e7) (ev_int (i := 3)) (rv_cmp (g := fun i j => decide (i < j))))
      have t2 := eb_test (ev_op (ln q [.str x] e6 e7) (ev_int (i := 2)) rv_eqI)
      cases hq : rdAt ks ts tx.cps.toList n q with
      | none =>
        rw [hq] at hg
        rw [hg]
        exact .ret t (run_seq (run_ifF t2 run_next) (bd0 q _ _ _ hq)) rfl
      | some p =>
        obtain ⟨d, q2⟩ := p
        rw [hq] at hg
        exact .step 1 t (run_seq (run_ifF t2 run_next) (bd1 q [.str x] _ _ d q2 (by simp) hq)) (by decide) (.inr (.inl ⟨rfl, d, q2, _, _, rfl, hg⟩))
    · have t : EvB c (riS ks ts tx n x q [.str x, d] e6 e7) _ true _ := eb_test (ev_op (ln q [.str x, d] e6 e7) (ev_int (i := 3)) (rv_cmp (g := fun i j => decide (i < j))))
      have t2 : EvB c (riS ks ts tx n x q [.str x, d] e6 e7) _ true _ := eb_test (ev_op (ln q [.str x, d] e6 e7) (ev_int (i := 2)) rv_eqI)
      have t3 : EvB c (riS ks ts tx n x q [.str x, d] e6 e7) (tTest (tOp rNe (tSl rSlS (tVar 1) (tPart (tVar 2)) (tPart (tOp (rI0 fun i j => .int (i + j)) (tVar 2) (tC (.int 2))))) (tC (.str ", ")))) (!decide (sl tx.cps.toList q (q + 2) = ", ")) _ := eb_test (ev_op (slv q 2 _ e6 e7) (ev_str (s := ", ")) rv_neS)
      rw [rdRest] at hg
      by_cases hc : sl tx.cps.toList q (q + 2) = ", "
      · rw [if_pos hc] at hg
        have t3' := eb_is t3 (show (!decide (sl tx.cps.toList q (q + 2) = ", ")) = false by rw [decide_eq_true hc]; rfl)
        have p1 : RunS c (riS ks ts tx n x q [.str x, d] e6 e7) (tAsg (tOp (rI0 fun i j => .int (i + j)) (tVar 2) (tC (.int 2))) (gName 2)) (.nx (riS ks ts tx n x (q + 2) [.str x, d] e6 e7)) := run_set (i := 2) (S1 := riS ks ts tx n x q [.str x, d] e6 e7) (x := .d (.int ((q : Int) + 2))) (ev_op (ev_var n2 rfl) ev_int (rv_int (g := fun i j => i + j)))
        have p2 := run_seq (run_ifF (tu := tRet (tC .non)) t3' run_next) p1
        cases hq : rdAt ks ts tx.cps.toList n (q + 2) with
        | none =>
          rw [hq] at hg
          rw [hg]
          exact .ret t (run_seq (run_ifT t2 p2) (bd0 (q + 2) _ _ _ hq)) rfl
        | some p =>
          obtain ⟨e, q2⟩ := p
          rw [hq] at hg
          exact .step 0 t (run_seq (run_ifT t2 p2) (bd1 (q + 2) [.str x, d] _ _ e q2 (by simp) hq)) (by decide) (.inr (.inr ⟨rfl, d, e, q2, _, _, rfl, hg⟩))
      · rw [if_neg hc] at hg
        rw [hg]
        exact .ret t (run_stop (run_ifT t2 (run_stop (run_ifT (eb_is t3 (by rw [decide_eq_false hc]; rfl)) (run_ret ev_non)) rfl)) rfl) rfl
    · exact .done (eb_test (ev_op (ln q [.str x, d, e] e6 e7) (ev_int (i := 3)) (rv_cmp (g := fun i j => decide (i < j))))) ⟨d, e, q, e6, e7, rfl, hg⟩
  have p0 : RunS c (S0 8 [.w ks ts, .d (.str tx), .d (.int (k : Int)), .d (.int (60 - ((n + 1 : Nat) : Int))), .d (.str x)]) (tAsg (tLst (tCons (tVar 4) tNil)) (gName 5)) (.nx (riS ks ts tx n x k [.str x] none none)) :=
    run_own (eo_lst (ds := [.str x]) (ea_cons (ev_var n4 rfl) ea_nil) (by simp)) (show 5 < 8 by decide)
  refine run_seq p0 ?_
  have fin : ∀ (d e : PyData) (q : Nat) (e6 e7 : Option En), goal = resD (if sl tx.cps.toList q (q + 1) = ")" then some (.tuple [.str x, d, e], q + 1) else none) → RunS c (riS ks ts tx n x q [.str x, d, e] e6 e7) (tRet (tIf (tTest (tOp rEq (tSl rSlS (tVar 1) (tPart (tVar 2)) (tPart (tOp (rI0 fun i j => .int (i + j)) (tVar 2) (tC (.int 1))))) (tC (.str ")")))) (tTup (tCons (tCB (rTupOf c.K) (tCons (tVar 5) tNil)) (tCons (tOp (rI0 fun i j => .int (i + j)) (tVar 2) (tC (.int 1))) tNil))) (tC .non))) (.rt (.d goal) fun _ => True) := fun d e q e6 e7 hg => by
    have t := eb_test (ev_op (slv q 1 [.str x, d, e] e6 e7) (ev_str (s := ")")) rv_eqS)
    by_cases hc : sl tx.cps.toList q (q + 1) = ")"
    · rw [if_pos hc] at hg
      rw [hg]
      exact run_ret (ev_ifT (eb_is t (decide_eq_true hc)) (ev_tup (ds := [.tuple [.str x, d, e], .int ((q + 1 : Nat) : Int)]) (ea_cons (ev_tupO n5 rfl) (ea_cons (ev_op (ev_var n2 rfl) ev_int rv_int) ea_nil)) (by simp)))
    · rw [if_neg hc] at hg
      rw [hg]
      exact run_ret (ev_ifF (eb_is t (decide_eq_false hc)) ev_non)
  have tt : EvB c (riS ks ts tx n x k [.str x] none none) (tTest (tOp rEq (tVar 4) (tC (.str "tied")))) (decide (x = "tied")) _ := eb_test (ev_op (ev_var n4 rfl) ev_str rv_eqS)
  rw [rdIn] at hgo
  by_cases hxt : x = "tied"
  · rw [if_pos hxt] at hgo
    have tt' := eb_is tt (decide_eq_true hxt)
    have q1 : RunS c (riS ks ts tx n x k [.str x] none none) (tAsg (tCall (spF c.K c.C mWA) [] E (tCons (tVar 1) (tCons (tVar 2) tNil))) (gName 6)) (.nx (riS ks ts tx n x k [.str x] (some (.x (.d (.int (wEnd tx.cps.toList k : Int))))) none)) :=
      run_set (ev_callF (ea_cons (ev_var n1 rfl) (ea_cons (ev_var n2 rfl) ea_nil)) ⟨tx, k, rfl, hl, rfl⟩)
    have sv : EvS c (riS ks ts tx n x k [.str x] (some (.x (.d (.int (wEnd tx.cps.toList k : Int))))) none) (tSl rSlS (tVar 1) (tPart (tVar 2)) (tPart (tVar 6))) (.d (.str (sl tx.cps.toList k (wEnd tx.cps.toList k)))) (riS ks ts tx n x k [.str x] (some (.x (.d (.int (wEnd tx.cps.toList k : Int))))) none) :=
      ev_is (ev_slS (ev_var n1 rfl) (ep_some (ev_var n2 rfl)) (ep_some (ev_var n6 rfl)) hl) (by rw [cut_sl])
    have q2 := eb_test (ev_op sv (ev_ties (E := E0) (ev_var (x := .w ks ts) n0 rfl)) (rv_inT (neg := true)))
    by_cases hti : sl tx.cps.toList k (wEnd tx.cps.toList k) ∈ ts
    · rw [if_pos hti] at hgo
      have q2' := eb_is q2 (b := false) (by rw [decide_eq_true hti]; rfl)
      have q3 : RunS c (riS ks ts tx n x k [.str x] (some (.x (.d (.int (wEnd tx.cps.toList k : Int))))) none) (tDrop (tBM c.K "list" rAppend (tVar 5) (tCons (tSl rSlS (tVar 1) (tPart (tVar 2)) (tPart (tVar 6))) tNil))) (.nx (riS ks ts tx n x k [.str x, .str (sl tx.cps.toList k (wEnd tx.cps.toList k))] (some (.x (.d (.int (wEnd tx.cps.toList k : Int))))) none)) :=
        run_drop (ev_app n5 rfl sv rfl (by simp))
      have q4 : RunS c (riS ks ts tx n x k [.str x, .str (sl tx.cps.toList k (wEnd tx.cps.toList k))] (some (.x (.d (.int (wEnd tx.cps.toList k : Int))))) none) (tAsg (tVar 6) (gName 2)) (.nx (riS ks ts tx n x (wEnd tx.cps.toList k) [.str x, .str (sl tx.cps.toList k (wEnd tx.cps.toList k))] (some (.x (.d (.int (wEnd tx.cps.toList k : Int))))) none)) :=
        run_set (ev_var n6 rfl)
      exact run_seq (run_ifT tt' (run_seq q1 (run_seq (run_ifF q2' run_next) (run_seq q3 q4)))) (key 1 _ (.inr (.inl ⟨rfl, _, _, _, _, rfl, hgo.symm⟩)) fin)
    · rw [if_neg hti] at hgo
      have q2' := eb_is q2 (b := true) (by rw [decide_eq_false hti]; rfl)
      rw [← hgo]
      exact run_stop (run_ifT tt' (run_seq q1 (run_stop (run_ifT q2' (run_ret ev_non)) rfl))) rfl
  · rw [if_neg hxt] at hgo
    exact run_seq (run_ifF (eb_is tt (decide_eq_false hxt)) run_next) (key 2 _ (.inl ⟨rfl, _, _, _, rfl, hgo.symm⟩) fin)
end
end K2

/-! K2h -/
set_option Elab.async false
set_option linter.all false
set_option autoImplicit false
set_option maxRecDepth 100000
set_option maxHeartbeats 4000000
namespace K2
open PySem PySem.Spec PyProof.Rows L2 Tk
/-! ### the reader reads just the texts of shapes -/
abbrev cl (s : Str) : List Nat := s.cps.toList
theorem cl_app (a b : Str) : cl (a ++ b) = cl a ++ cl b := app_list a b
theorem cl_len (s : Str) : (cl s).length = s.length := Array.length_toList
theorem cl_sl (l : List Nat) (i j : Nat) : cl (sl l i j) = (l.drop i).take (j - i) := rfl
theorem drop_sl {l : List Nat} {i j : Nat} (h : i ≤ j) : l.drop i = cl (sl l i j) ++ l.drop j := by
  rw [cl_sl]
  have e : (l.drop i).drop (j - i) = l.drop j := by
    rw [List.drop_drop]
    congr 1
    omega
  rw [← e, List.take_append_drop]
theorem wEnd_ge (l : List Nat) (k : Nat) : k ≤ wEnd l k := Nat.le_add_right _ _
/-- a plain word that is no word of a text's own -/
def Pw (k : Str) : Prop := 1 ≤ k.length ∧ k.length ≤ 8 ∧ (∀ c ∈ cl k, 97 ≤ c ∧ c ≤ 122) ∧ k ∉ (["any", "none", "both", "tied"] : List Str)
def Wok (ks ts : List Str) : Prop := (∀ k ∈ ks, Pw k) ∧ (∀ t ∈ ts, Pw t)
theorem rd_sound {ks ts : List Str} {l : List Nat} : ∀ (n at_ : Nat) (d : PyData) (q : Nat), rdAt ks ts l n at_ = some (d, q) → at_ ≤ q ∧ ∃ sh : Sh, d = sh.dat ∧ sh.wf ks ts ∧ sh.depth ≤ n + 1 ∧ l.drop at_ = cl sh.txt ++ l.drop q := by
  intro n
  induction n with
  | zero =>
    intro at_ d q h
    rw [rdAt_eq] at h
    have e := drop_sl (l := l) (wEnd_ge l at_)
    split at h
    · rename_i hw
      cases h
      exact ⟨wEnd_ge _ _, .any, rfl, trivial, Nat.le_refl _, by rw [hw] at e; exact e⟩
    · split at h
      · rename_i hw
        cases h
        exact ⟨wEnd_ge _ _, .none, rfl, trivial, Nat.le_refl _, by rw [hw] at e; exact e⟩
      · split at h
        · rename_i hw
          cases h
          exact ⟨wEnd_ge _ _, .kind _, rfl, hw, Nat.le_refl _, e⟩
        · split at h
          · cases h
          · split at h <;> cases h
  | succ n ih =>
    intro at_ d q h
    rw [rdAt_eq] at h
    have e := drop_sl (l := l) (wEnd_ge l at_)
    split at h
    · rename_i hw
      cases h
      exact ⟨wEnd_ge _ _, .any, rfl, trivial, by show 1 ≤ _; omega, by rw [hw] at e; exact e⟩
    · split at h
      · rename_i hw
        cases h
        exact ⟨wEnd_ge _ _, .none, rfl, trivial, by show 1 ≤ _; omega, by rw [hw] at e; exact e⟩
      · split at h
        · rename_i hw
          cases h
          exact ⟨wEnd_ge _ _, .kind _, rfl, hw, by show 1 ≤ _; omega, e⟩
        · split at h
          · cases h
          · split at h
            · cases h
            · rename_i hbt hp
              have hbt : sl l at_ (wEnd l at_) = "both" ∨ sl l at_ (wEnd l at_) = "tied" := Classical.not_not.mp hbt
              have hp : sl l (wEnd l at_) (wEnd l at_ + 1) = "(" := Classical.not_not.mp hp
              have e2 := drop_sl (l := l) (Nat.le_succ (wEnd l at_))
              rw [hp] at e2
              have ge := wEnd_ge l at_
              generalize wEnd l at_ = p at *
              generalize sl l at_ p = x at *
              change rdIn ks ts l n (p + 1) x = some (d, q) at h
              rw [rdIn] at h
              have key : ∀ (d1 : PyData) (r : Nat), rdRest ks ts l n x d1 r = some (d, q) → r ≤ q ∧ ∃ sb : Sh, d = .tuple [.str x, d1, sb.dat] ∧ sb.wf ks ts ∧ sb.depth ≤ n + 1 ∧ l.drop r = cl ", " ++ (cl sb.txt ++ (cl ")" ++ l.drop q)) := by
                intro d1 r hr
                rw [rdRest] at hr
                split at hr
                · rename_i hc
                  have e3 := drop_sl (l := l) (Nat.le_add_right r 2)
                  rw [hc] at e3
                  cases h2 : rdAt ks ts l n (r + 2) with
                  | none =>
                    rw [h2] at hr
                    cases hr
                  | some p2 =>
                    obtain ⟨d2, q2⟩ := p2
                    rw [h2] at hr
                    obtain ⟨g1, sb, b1, b2, b3, b4⟩ := ih _ _ _ h2
                    simp only at hr
                    split at hr
                    · rename_i hcl
                      cases hr
                      have e4 := drop_sl (l := l) (Nat.le_succ q2)
                      rw [hcl] at e4
                      refine ⟨by omega, sb, by rw [b1], b2, b3, ?_⟩
                      rw [e3, b4, e4]
                    · cases hr
                · cases hr
              split at h
              · rename_i hx
                subst hx
                split at h
                · rename_i hti
                  obtain ⟨g2, sb, b1, b2, b3, b4⟩ := key _ _ h
                  have e5 := drop_sl (l := l) (wEnd_ge l (p + 1))
                  have g3 := wEnd_ge l (p + 1)
                  refine ⟨by omega, .tied _ sb, b1, ⟨hti, b2⟩, Nat.succ_le_succ b3, ?_⟩
                  rw [e, e2, e5, b4]
                  show _ = cl ((("tied" : Str) ++ ("(" : Str) ++ (_ ++ (", " : Str) ++ sb.txt)) ++ (")" : Str)) ++ _
                  simp only [cl_app, List.append_assoc]
                · cases h
              · rename_i hx
                have hxb : x = "both" := hbt.resolve_right hx
                subst hxb
                cases h1 : rdAt ks ts l n (p + 1) with
                | none =>
                  rw [h1] at h
                  cases h
                | some p1 =>
                  obtain ⟨d1, q1⟩ := p1
                  rw [h1] at h
                  obtain ⟨g1, sa, a1, a2, a3, a4⟩ := ih _ _ _ h1
                  obtain ⟨g2, sb, b1, b2, b3, b4⟩ := key _ _ h
                  refine ⟨by omega, .both sa sb, by rw [b1, a1]; rfl, ⟨a2, b2⟩, ?_, ?_⟩
                  · show max sa.depth sb.depth + 1 ≤ n + 1 + 1
                    omega
                  · rw [e, e2, a4, b4]
                    show _ = cl ((("both" : Str) ++ ("(" : Str) ++ (sa.txt ++ (", " : Str) ++ sb.txt)) ++ (")" : Str)) ++ _
                    simp only [cl_app, List.append_assoc]
/-! ### .. and all of them -/
def Bnd (l : List Nat) : Prop := ∀ c, l[0]? = some c → nsg c = false
theorem take_end {w r : List Nat} (hw : ∀ c ∈ w, nsg c = true) (hr : Bnd r) : (w ++ r).takeWhile nsg = w := by
  induction w with
  | nil =>
    cases r with
    | nil => rfl
    | cons c r =>
      rw [List.nil_append, List.takeWhile_cons, hr c rfl]
      rfl
  | cons c w ih =>
    rw [List.cons_append, List.takeWhile_cons, hw c (by simp), if_pos rfl, ih fun x hx => hw x (by simp [hx])]
theorem word_read {l : List Nat} {k : Nat} {w : Str} {r : List Nat} (h : l.drop k = cl w ++ r) (hw : ∀ c ∈ cl w, nsg c = true) (hr : Bnd r) : wEnd l k = k + w.length ∧ sl l k (wEnd l k) = w ∧ l.drop (k + w.length) = r := by
  have e : wEnd l k = k + w.length := by
    unfold wEnd
    rw [h, take_end hw hr, cl_len]
  refine ⟨e, ?_, ?_⟩
  · rw [e]
    refine str_ext ?_
    show cl (sl l k (k + w.length)) = cl w
    rw [cl_sl, h, Nat.add_sub_cancel_left, List.take_append_of_le_length (by rw [cl_len]; exact Nat.le_refl _), List.take_of_length_le (by rw [cl_len]; exact Nat.le_refl _)]
  · rw [← List.drop_drop, h, List.drop_append_of_le_length (by rw [cl_len]; exact Nat.le_refl _), List.drop_eq_nil_of_le (by rw [cl_len]; exact Nat.le_refl _), List.nil_append]
theorem mark_read {l : List Nat} {k : Nat} {w : Str} {r : List Nat} (h : l.drop k = cl w ++ r) : sl l k (k + w.length) = w ∧ l.drop (k + w.length) = r := by
  refine ⟨?_, ?_⟩
  · refine str_ext ?_
    show cl (sl l k (k + w.length)) = cl w
    rw [cl_sl, h, Nat.add_sub_cancel_left, List.take_append_of_le_length (by rw [cl_len]; exact Nat.le_refl _), List.take_of_length_le (by rw [cl_len]; exact Nat.le_refl _)]
  · rw [← List.drop_drop, h, List.drop_append_of_le_length (by rw [cl_len]; exact Nat.le_refl _), List.drop_eq_nil_of_le (by rw [cl_len]; exact Nat.le_refl _), List.nil_append]
theorem nsg_pw {k : Str} (h : Pw k) : ∀ c ∈ cl k, nsg c = true := fun c hc => by
  obtain ⟨h1, h2⟩ := h.2.2.1 c hc
  unfold nsg
  have : c ∉ sgn := fun z => by
    have e : sgn = [40, 41, 44, 32] := by decide +kernel
    rw [e] at z
    simp at z
    omega
  rw [decide_eq_false this]
  rfl
theorem nsg_lit {w : Str} (h : (cl w).all nsg = true) : ∀ c ∈ cl w, nsg c = true := fun c hc => List.all_eq_true.mp h c hc
theorem bnd_of {w : Str} {r : List Nat} {c : Nat} (h : (cl w)[0]? = some c) (hs : nsg c = false) : Bnd (cl w ++ r) := fun d hd => by
  have hp : 0 < (cl w).length := (List.getElem?_eq_some_iff.mp h).1
  rw [List.getElem?_append_left hp, h] at hd
  cases hd
  exact hs
theorem rd_complete {ks ts : List Str} {l : List Nat} (hok : Wok ks ts) : ∀ (sh : Sh) (n at_ : Nat) (r : List Nat), sh.wf ks ts → sh.depth ≤ n + 1 → l.drop at_ = cl sh.txt ++ r → Bnd r → rdAt ks ts l n at_ = some (sh.dat, at_ + sh.txt.length) ∧ l.drop (at_ + sh.txt.length) = r
  | .any, n, at_, r, _, _, h, hb => by
    obtain ⟨e1, e2, e3⟩ := word_read (w := "any") h (nsg_lit (by decide +kernel)) hb
    refine ⟨?_, e3⟩
    rw [rdAt_eq, e2, if_pos rfl, e1]
    rfl
  | .none, n, at_, r, _, _, h, hb => by
    obtain ⟨e1, e2, e3⟩ := word_read (w := "none") h (nsg_lit (by decide +kernel)) hb
    refine ⟨?_, e3⟩
    rw [rdAt_eq, e2, if_neg (by decide +kernel), if_pos rfl, e1]
    rfl
  | .kind k, n, at_, r, hw, _, h, hb => by
    have hk : Pw k := hok.1 k hw
    obtain ⟨e1, e2, e3⟩ := word_read (w := k) h (nsg_pw hk) hb
    refine ⟨?_, e3⟩
    have h1 : k ≠ "any" := fun z => hk.2.2.2 (by rw [z]; simp)
    have h2 : k ≠ "none" := fun z => hk.2.2.2 (by rw [z]; simp)
    rw [rdAt_eq, e2, if_neg h1, if_neg h2, if_pos (show k ∈ ks from hw), e1]
    rfl
  | .both a b, 0, at_, r, _, hd, _, _ => by
    exfalso
    have h1 : max a.depth b.depth + 1 ≤ 0 + 1 := hd
    have h2 : ∀ s : Sh, 0 < s.depth := fun s => by cases s <;> simp [Sh.depth]
    have := h2 a
    omega
  | .tied t a, 0, at_, r, _, hd, _, _ => by
    exfalso
    have h1 : a.depth + 1 ≤ 0 + 1 := hd
    have h2 : ∀ s : Sh, 0 < s.depth := fun s => by cases s <;> simp [Sh.depth]
    have := h2 a
    omega
  | .both a b, n + 1, at_, r, hw, hd, h, hb => by
    have hd' : max a.depth b.depth + 1 ≤ n + 1 + 1 := hd
    have ht : cl (Sh.both a b).txt = cl "both" ++ (cl "(" ++ (cl a.txt ++ (cl ", " ++ (cl b.txt ++ cl ")")))) := by
      show cl ((("both" : Str) ++ ("(" : Str) ++ (a.txt ++ (", " : Str) ++ b.txt)) ++ (")" : Str)) = _
      simp only [cl_app, List.append_assoc]
    have hz : (Sh.both a b).txt.length = 8 + a.txt.length + b.txt.length := by
      rw [← cl_len, ht]
      simp only [List.length_append, cl_len]
      rw [show ("both" : Str).length = 4 from by decide +kernel, show ("(" : Str).length = 1 from by decide +kernel, show (", " : Str).length = 2 from by decide +kernel, show (")" : Str).length = 1 from by decide +kernel]
      omega
    rw [ht] at h
    simp only [List.append_assoc] at h
    obtain ⟨e1, e2, e3⟩ := word_read (w := "both") h (nsg_lit (by decide +kernel)) (bnd_of (c := 40) (by decide +kernel) (by decide +kernel))
    obtain ⟨e4, e5⟩ := mark_read (w := "(") e3
    obtain ⟨a1, a2⟩ := rd_complete hok a n _ _ hw.1 (by omega) e5 (bnd_of (c := 44) (by decide +kernel) (by decide +kernel))
    obtain ⟨e6, e7⟩ := mark_read (w := ", ") a2
    obtain ⟨b1, b2⟩ := rd_complete hok b n _ _ hw.2 (by omega) e7 (bnd_of (c := 41) (by decide +kernel) (by decide +kernel))
    obtain ⟨e8, e9⟩ := mark_read (w := ")") b2
    have f1 : ("both" : Str).length = 4 := by decide +kernel
    have f2 : ("(" : Str).length = 1 := by decide +kernel
    have f3 : (", " : Str).length = 2 := by decide +kernel
    have f4 : (")" : Str).length = 1 := by decide +kernel
    rw [f1] at e1 e4 a1 e6 b1 e8 e9
    rw [f2] at e4 a1 e6 b1 e8 e9
    rw [f3] at e6 b1 e8 e9
    rw [f4] at e8 e9
    refine ⟨?_, by rw [hz, ← e9]; congr 1; omega⟩
    have hk : ∀ x : Str, x ∈ (["any", "none", "both", "tied"] : List Str) → x ∉ ks := fun x hx z => (hok.1 x z).2.2.2 hx
    rw [rdAt_eq, e2, if_neg (by decide +kernel), if_neg (by decide +kernel), if_neg (hk _ (by simp)), if_neg (fun z => z (.inl rfl)), e1, if_neg (fun z => z e4)]
    show rdIn ks ts l n (at_ + 4 + 1) "both" = _
    rw [rdIn, if_neg (by decide +kernel), a1]
    show rdRest ks ts l n "both" a.dat (at_ + 4 + 1 + a.txt.length) = _
    rw [rdRest, if_pos e6, b1]
    show (if sl l (at_ + 4 + 1 + a.txt.length + 2 + b.txt.length) (at_ + 4 + 1 + a.txt.length + 2 + b.txt.length + 1) = ")" then _ else _) = _
    rw [if_pos e8, hz]
    show some (_, _) = some (_, _)
    congr 2
    omega
  | .tied t a, n + 1, at_, r, hw, hd, h, hb => by
    have hd' : a.depth + 1 ≤ n + 1 + 1 := hd
    have ht : cl (Sh.tied t a).txt = cl "tied" ++ (cl "(" ++ (cl t ++ (cl ", " ++ (cl a.txt ++ cl ")")))) := by
      show cl ((("tied" : Str) ++ ("(" : Str) ++ (t ++ (", " : Str) ++ a.txt)) ++ (")" : Str)) = _
      simp only [cl_app, List.append_assoc]
    have hz : (Sh.tied t a).txt.length = 8 + t.length + a.txt.length := by
      rw [← cl_len, ht]
      simp only [List.length_append, cl_len]
      rw [show ("tied" : Str).length = 4 from by decide +kernel, show ("(" : Str).length = 1 from by decide +kernel, show (", " : Str).length = 2 from by decide +kernel, show (")" : Str).length = 1 from by decide +kernel]
      omega
    rw [ht] at h
    simp only [List.append_assoc] at h
    obtain ⟨e1, e2, e3⟩ := word_read (w := "tied") h (nsg_lit (by decide +kernel)) (bnd_of (c := 40) (by decide +kernel) (by decide +kernel))
    obtain ⟨e4, e5⟩ := mark_read (w := "(") e3
    obtain ⟨c1, c2, c3⟩ := word_read (w := t) e5 (nsg_pw (hok.2 t hw.1)) (bnd_of (c := 44) (by decide +kernel) (by decide +kernel))
    obtain ⟨e6, e7⟩ := mark_read (w := ", ") c3
    obtain ⟨b1, b2⟩ := rd_complete hok a n _ _ hw.2 (by omega) e7 (bnd_of (c := 41) (by decide +kernel) (by decide +kernel))
    obtain ⟨e8, e9⟩ := mark_read (w := ")") b2
    have f1 : ("tied" : Str).length = 4 := by decide +kernel
    have f2 : ("(" : Str).length = 1 := by decide +kernel
    have f3 : (", " : Str).length = 2 := by decide +kernel
    have f4 : (")" : Str).length = 1 := by decide +kernel
    rw [f1] at e1 e4 c1 c2 e6 b1 e8 e9
    rw [f2] at e4 c1 c2 e6 b1 e8 e9
    rw [f3] at e6 b1 e8 e9
    rw [f4] at e8 e9
    refine ⟨?_, by rw [hz, ← e9]; congr 1; omega⟩
    have hk : ∀ x : Str, x ∈ (["any", "none", "both", "tied"] : List Str) → x ∉ ks := fun x hx z => (hok.1 x z).2.2.2 hx
    rw [rdAt_eq, e2, if_neg (by decide +kernel), if_neg (by decide +kernel), if_neg (hk _ (by simp)), if_neg (fun z => z (.inr rfl)), e1, if_neg (fun z => z e4)]
    show rdIn ks ts l n (at_ + 4 + 1) "tied" = _
    rw [rdIn, if_pos rfl, c2, if_pos hw.1, c1, rdRest, if_pos e6, b1]
    show (if sl l (at_ + 4 + 1 + t.length + 2 + a.txt.length) (at_ + 4 + 1 + t.length + 2 + a.txt.length + 1) = ")" then _ else _) = _
    rw [if_pos e8, hz]
    show some (_, _) = some (_, _)
    congr 2
    omega
end K2

/-! K2i -/
set_option Elab.async false
set_option linter.all false
set_option autoImplicit false
set_option maxRecDepth 100000
set_option maxHeartbeats 4000000
namespace K2
open PySem PySem.Spec PyProof.Rows L2 Tk
abbrev sSI : Stmt := topS 33
theorem scSI : FnScope ["words", "text", "read"] ["words", "text"] (defScope sSI) := ⟨rfl, rfl, rfl, by decide +kernel, rfl, by decide +kernel, by decide +kernel⟩
abbrev sST : Stmt := topS 34
theorem scST : FnScope ["words", "shape"] ["words", "shape"] (defScope sST) := ⟨rfl, rfl, rfl, by decide +kernel, rfl, by decide +kernel, by decide +kernel⟩
abbrev sRS : Stmt := topS 35
theorem scRS : FnScope ["words", "text", "found"] ["words", "text"] (defScope sRS) := ⟨rfl, rfl, rfl, by decide +kernel, rfl, by decide +kernel, by decide +kernel⟩

theorem pw_ok {k : Str} (h : Pw k) : PyData.strOk k = true := by
  unfold PyData.strOk
  rw [← Array.all_toList]
  exact List.all_eq_true.mpr fun c hc => decide_eq_true (by have := (h.2.2.1 c hc).2; omega)
theorem sd_dat {ks ts : List Str} (hok : Wok ks ts) : ∀ sh : Sh, sh.wf ks ts → Sd sh.depth sh.dat
  | .any, _ => Sd.tup (k := 0) fun d hd => by
    simp at hd
    subst hd
    exact .str (by decide +kernel)
  | .none, _ => Sd.tup (k := 0) fun d hd => by
    simp at hd
    subst hd
    exact .str (by decide +kernel)
  | .kind k, h => Sd.tup (k := 0) fun d hd => by
    simp at hd
    rcases hd with rfl | rfl
    · exact .str (by decide +kernel)
    · exact .str (pw_ok (hok.1 k h))
  | .both a b, h => Sd.tup (k := max a.depth b.depth) fun d hd => by
    simp at hd
    rcases hd with rfl | rfl | rfl
    · exact .str (by decide +kernel)
    · exact (sd_dat hok a h.1).up (Nat.le_max_left _ _)
    · exact (sd_dat hok b h.2).up (Nat.le_max_right _ _)
  | .tied t a, h => Sd.tup (k := a.depth) fun d hd => by
    simp at hd
    rcases hd with rfl | rfl | rfl
    · exact .str (by decide +kernel)
    · exact .str (pw_ok (hok.2 t h.1))
    · exact sd_dat hok a h.2
theorem both_len (a b : Sh) : (Sh.both a b).txt.length = 8 + a.txt.length + b.txt.length := by
  show ((("both" : Str) ++ ("(" : Str) ++ (a.txt ++ (", " : Str) ++ b.txt)) ++ (")" : Str)).length = _
  simp only [len_app]
  rw [show ("both" : Str).length = 4 from by decide +kernel, show ("(" : Str).length = 1 from by decide +kernel, show (", " : Str).length = 2 from by decide +kernel, show (")" : Str).length = 1 from by decide +kernel]
  omega
theorem tied_len (t : Str) (a : Sh) : (Sh.tied t a).txt.length = 8 + t.length + a.txt.length := by
  show ((("tied" : Str) ++ ("(" : Str) ++ (t ++ (", " : Str) ++ a.txt)) ++ (")" : Str)).length = _
  simp only [len_app]
  rw [show ("tied" : Str).length = 4 from by decide +kernel, show ("(" : Str).length = 1 from by decide +kernel, show (", " : Str).length = 2 from by decide +kernel, show (")" : Str).length = 1 from by decide +kernel]
  omega
theorem txt_len {ks ts : List Str} (hok : Wok ks ts) : ∀ sh : Sh, sh.wf ks ts → sh.txt.length ≤ 16 * sh.size
  | .any, _ => by decide +kernel
  | .none, _ => by decide +kernel
  | .kind k, h => by
    have := (hok.1 k h).2.1
    show k.length ≤ 16 * 1
    omega
  | .both a b, h => by
    have h1 := txt_len hok a h.1
    have h2 := txt_len hok b h.2
    rw [both_len]
    show _ ≤ 16 * (a.size + b.size + 1)
    omega
  | .tied t a, h => by
    have h1 := txt_len hok a h.2
    have h2 := (hok.2 t h.1).2.1
    rw [tied_len]
    show _ ≤ 16 * (a.size + 1)
    omega
/-- what a value is the text of -/
def Rd (ks ts : List Str) (dv : PyData) : Option Sh → Prop
  | some sh => dv = .str sh.txt ∧ sh.wf ks ts ∧ sh.size ≤ 60
  | none => ∀ sh : Sh, sh.wf ks ts → sh.size ≤ 60 → dv ≠ .str sh.txt
def shD : Option Sh → PyData
  | some sh => sh.dat
  | none => .none
/-- the page's reader: what shape_in computes -/
theorem shapeIn_eq {ks ts : List Str} (hok : Wok ks ts) {s : Str} {o : Option Sh} (h : Rd ks ts (.str s) o) : (match rdAt ks ts (cl s) 59 0 with
    | none => PyData.none
    | some (d, q) => if q = s.length ∧ isShape ks ts d = true then d else PyData.none) = shD o := by
  cases o with
  | some sh =>
    obtain ⟨e, hw, hz⟩ := h
    cases e
    have hd := sh.depth_le
    obtain ⟨h1, h2⟩ := rd_complete (l := cl sh.txt) hok sh 59 0 [] hw (by omega) (by rw [List.drop_zero, List.append_nil]) (fun c hc => by cases hc)
    rw [h1]
    show (if 0 + sh.txt.length = sh.txt.length ∧ isShape ks ts sh.dat = true then sh.dat else PyData.none) = sh.dat
    rw [if_pos ⟨Nat.zero_add _, isShape_iff.mpr ⟨sh, rfl, hz, hw⟩⟩]
  | none =>
    cases hr : rdAt ks ts (cl s) 59 0 with
    | none => rfl
    | some p =>
      obtain ⟨d, q⟩ := p
      obtain ⟨_, sh, rfl, hw, hd, he⟩ := rd_sound _ _ _ _ hr
      show (if q = s.length ∧ isShape ks ts sh.dat = true then sh.dat else PyData.none) = .none
      by_cases hc : q = s.length ∧ isShape ks ts sh.dat = true
      · exfalso
        obtain ⟨rfl, hi⟩ := hc
        obtain ⟨s2, e2, hz2, hw2⟩ := isShape_iff.mp hi
        rw [List.drop_eq_nil_of_le (show (cl s).length ≤ s.length by rw [cl_len]; exact Nat.le_refl _), List.append_nil, List.drop_zero] at he
        have hs : s = sh.txt := str_ext he
        have inj : ∀ a b : Sh, a.dat = b.dat → a = b := by
          intro a
          induction a with
          | any => intro b hb; cases b <;> simp [Sh.dat] at hb <;> first | rfl | exact absurd hb (by decide +kernel)
          | none => intro b hb; cases b <;> simp [Sh.dat] at hb <;> first | rfl | exact absurd hb (by decide +kernel)
          | kind k => intro b hb; cases b <;> simp [Sh.dat] at hb <;> first | (rw [hb]) | exact absurd hb (by decide +kernel)
          | both x y ix iy =>
            intro b hb
            cases b with
            | both x2 y2 =>
              simp [Sh.dat] at hb
              rw [ix _ hb.1, iy _ hb.2]
            | tied t a => simp [Sh.dat] at hb; exact absurd hb.1 (by decide +kernel)
            | _ => simp [Sh.dat] at hb
          | tied t x ix =>
            intro b hb
            cases b with
            | tied t2 x2 =>
              simp [Sh.dat] at hb
              rw [hb.1, ix _ hb.2]
            | both x2 y2 => simp [Sh.dat] at hb; exact absurd hb.1 (by decide +kernel)
            | _ => simp [Sh.dat] at hb
        have := inj _ _ e2
        subst this
        exact h sh hw hz2 (by rw [hs])
      · rw [if_neg hc]
section
variable {P : Program} {w : World} {K : PySem.W.Frag} {mg : Str → Option Value} {base : Heap} {C : Addr}

theorem ok_reads {f f2 : Addr} {fd fd2 : FuncData} (Dra : Df K mg "read_at" sRA ["words", "text", "at", "level"] f fd) (Dri : Df K mg "read_inner" sRI ["words", "text", "at", "level", "word"] f2 fd2) (M : MT P w K mg base C) (h_word_at : Cal P w K mg base "word_at" 2 ["text", "at"] (spF K C mWA)) :
    ∀ n, Cal P w K mg base "read_inner" (2 * n + 3) ["words", "text", "at", "level", "word"] (spF K C (mRI n)) ∧ Cal P w K mg base "read_at" (2 * n + 4) ["words", "text", "at", "level"] (spF K C (mRA n))
  | 0 => ⟨Dri.cal (ok_ri0 Dri.F), Dra.cal (ok_ra Dra.F M h_word_at 0 (Dri.cal (ok_ri0 Dri.F)))⟩
  | n + 1 => by
    have h := (ok_reads Dra Dri M h_word_at n).2
    have h1 := Dri.cal (ok_ri Dri.F M h_word_at n h)
    exact ⟨h1, Dra.cal (ok_ra Dra.F M h_word_at (n + 1) h1)⟩
def mSI (xs : List Dx) (r : Res) : Prop := ∃ ks ts dv o, xs = [.w ks ts, .d dv] ∧ Wok ks ts ∧ (∀ s, dv = .str s → s.length ≤ sizeLine) ∧ isDic dv = false ∧ Rd ks ts dv o ∧ r = .ok (.d (shD o))
theorem ok_si {f : Addr} {fd : FuncData} (F : Fun K "shape_in" "shape_in" sSI f fd) (M : MT P w K mg base C) (h_read_at : Cal P w K mg base "read_at" 122 ["words", "text", "at", "level"] (spF K C (mRA 59))) (h_is_shape_of : Cal P w K mg base "is_shape_of" 4 ["words", "thing"] (spF K C mShp)) : FnOk P w K mg base (L2.CX P w) 123 f fd ["words", "text"] (spF K C mSI) := by
  refine fn_ok F scSI (fun xs r ⟨_, _, _, _, h, _⟩ => by rw [h]; rfl) fun cdv A outer s H E hr xs r ⟨ks, ts, dv, o, h1, hok, hsz, hdc, hrd, h3⟩ => ?_
  subst h1 h3
  have hr1 : Room 122 _ := hr
  have h_is_shape_of := h_is_shape_of.mono (show 4 ≤ 122 by omega)
  refine ⟨_, (pss_cons (ps_if (pt_not (pt_val (pe_callB call_isi (by rfl) (M.B "isinstance" (by decide)) boot_isinstance (pa_cons (pv 1) (pa_cons (pe_bltn (v := .ty "str") (by rfl) (M.B "str" (by decide)) (by decide +kernel) rfl) pa_nil))))) (pss_one (ps_ret pe_non)) pss_nil)
      (pss_cons (ps_set (i := 2) scSI.nd rfl (.inl rfl) (pe_cal h_read_at hr1 pxE (pa_cons (pv 0) (pa_cons (pv 1) (pa_cons pe_int (pa_cons pe_int pa_nil))))))
      (pss_cons (ps_if (PW.pt (pw_or (pt_cmpR op_isN1 (pv 2) pe_non (nomark _)) (pw_or (pt_cmpR op_ne (pe_ix ix_seq (pv 2) pe_int (fun _ _ => rfl)) (pe_callB call_lenStr (by rfl) (M.B "len" (by decide)) boot_len (pa_cons (pv 1) pa_nil)) (nomark _)) (pw_or1 (pt_not (pt_val (pe_cal h_is_shape_of hr1 pxE (pa_cons (pv 0) (pa_cons (pe_ix ix_seq (pv 2) pe_int (fun _ _ => rfl)) pa_nil))))))))) (pss_one (ps_ret pe_non)) pss_nil)
      (pss_one (ps_ret (pe_ix ix_seq (pv 2) pe_int (fun _ _ => rfl))))))), fun c hc => ?_⟩
  obtain ⟨rfl, rfl, hn, hm⟩ := hc
  refine end_run (fun _ => True) ?_
  have n0 : 0 < c.n := by rw [hn]; exact (by decide : 0 < 3)
  have n1 : 1 < c.n := by rw [hn]; exact (by decide : 1 < 3)
  have n2 : 2 < c.n := by rw [hn]; exact (by decide : 2 < 3)
  have t1 : EvB c (S0 3 [.w ks ts, .d dv]) (tNot (tB (tCB (rIsi c.K) (tCons (tVar 1) (tCons (tC (.ty "str")) tNil))))) (!isStr dv) (S0 3 [.w ks ts, .d dv]) := eb_not (eb_B (ev_isi (ev_var n1 rfl) (kit_str dv) hdc))
  have other : ∀ {tw tu : TS}, isStr dv = false → RunS c (S0 3 [.w ks ts, .d dv]) (tSeq (tIfS (tNot (tB (tCB (rIsi c.K) (tCons (tVar 1) (tCons (tC (.ty "str")) tNil))))) (tRet (tC .non)) tw) tu) (.rt (.d (shD o)) fun _ => True) := fun hs => by
    have ho : o = none := by
      cases o with
      | none => rfl
      | some sh =>
        rw [hrd.1] at hs
        cases hs
    rw [ho]
    rw [hs] at t1
    exact run_stop (run_ifT t1 (run_ret ev_non)) rfl
  cases dv with
  | str tx =>
    have hl := hsz tx rfl
    refine run_seq (run_ifF t1 run_next) ?_
    rw [← shapeIn_eq hok hrd]
    refine run_seq (run_set (ev_callF (ea_cons (ev_var n0 rfl) (ea_cons (ev_var n1 rfl) (ea_cons ev_int (ea_cons ev_int ea_nil)))) ⟨ks, ts, tx, 0, rfl, hl, rfl⟩)) ?_
    cases hq : rdAt ks ts (cl tx) 59 0 with
    | none =>
      exact run_stop (run_ifT (eb_or1 (eb_test (ev_op (ev_var n2 rfl) ev_non rv_isN))) (run_ret ev_non)) rfl
    | some p =>
      obtain ⟨d, q⟩ := p
      obtain ⟨_, sh, rfl, hw, hd, he⟩ := rd_sound _ _ _ _ hq
      show RunS c ⟨fun _ => True, [some (.x (.w ks ts)), some (.x (.d (.str tx))), some (.x (.d (.tuple [sh.dat, .int (q : Int)])))]⟩ _ (.rt (.d (if q = tx.length ∧ isShape ks ts sh.dat = true then sh.dat else .none)) fun _ => True)
      have u1 : EvB c ⟨fun _ => True, [some (.x (.w ks ts)), some (.x (.d (.str tx))), some (.x (.d (.tuple [sh.dat, .int (q : Int)])))]⟩ (tTest (tOp rIsN (tVar 2) (tC .non))) false _ := eb_test (ev_op (ev_var n2 rfl) ev_non rv_isN)
      have x0 : EvS c ⟨fun _ => True, [some (.x (.w ks ts)), some (.x (.d (.str tx))), some (.x (.d (.tuple [sh.dat, .int (q : Int)])))]⟩ (tOp (rIx c.K) (tVar 2) (tC (.int 0))) (.d sh.dat) _ := ev_op (ev_var n2 rfl) ev_int (rv_it 0 rfl)
      have u2 := eb_test (ev_op (ev_op (ev_var (c := c) (S := ⟨fun _ => True, [some (.x (.w ks ts)), some (.x (.d (.str tx))), some (.x (.d (.tuple [sh.dat, .int (q : Int)])))]⟩) n2 rfl) (ev_int (i := 1)) (rv_it (d := .int (q : Int)) 1 rfl)) (ev_lenS (ev_var n1 rfl) hl) rv_neI)
      have u3 := eb_not (eb_B (ev_callF (E := E) (m := mShp) (ea_cons (ev_var (c := c) (S := ⟨fun _ => True, [some (.x (.w ks ts)), some (.x (.d (.str tx))), some (.x (.d (.tuple [sh.dat, .int (q : Int)])))]⟩) n0 rfl) (ea_cons x0 ea_nil)) ⟨ks, ts, sh.dat, rfl, (sd_dat hok sh hw).up (by omega), rfl⟩))
      by_cases h1 : q = tx.length
      · have u2' := eb_is u2 (b := false) (by rw [decide_eq_true (show (q : Int) = (tx.length : Int) by omega)]; rfl)
        cases hi : isShape ks ts sh.dat with
        | true =>
          rw [if_pos ⟨h1, rfl⟩]
          exact run_seq (run_ifF (eb_or0 u1 (eb_or0 u2' (eb_is u3 (by rw [hi]; rfl)))) run_next) (run_ret x0)
        | false =>
          rw [if_neg (fun z => by cases z.2)]
          exact run_stop (run_ifT (eb_or0 u1 (eb_or0 u2' (eb_is u3 (by rw [hi]; rfl)))) (run_ret ev_non)) rfl
      · rw [if_neg (fun z => h1 z.1)]
        exact run_stop (run_ifT (eb_or0 u1 (eb_or1 (eb_is u2 (by rw [decide_eq_false (show ¬ (q : Int) = (tx.length : Int) by omega)]; rfl)))) (run_ret ev_non)) rfl
  | _ => exact other rfl
def mST (DW DS : Addr) (xs : List Dx) (r : Res) : Prop := (∃ ks ts d, xs = [.w ks ts, .d d] ∧ Wok ks ts ∧ Sd 63 d ∧ ((∃ sh : Sh, d = sh.dat ∧ sh.wf ks ts ∧ sh.size ≤ 60 ∧ r = .ok (.d (.str sh.txt))) ∨ (isShape ks ts d = false ∧ r = .ex DS)))
theorem ok_st {f : Addr} {fd : FuncData} {DW DS : Addr} (F : Fun K "shape_text" "shape_text" sST f fd) (h_need_words : Cal P w K mg base "need_words" 2 ["words"] (spF K C (mNW DW))) (h_need_shape : Cal P w K mg base "need_shape" 5 ["words", "shape"] (spF K C (mNS DS))) (h_text_by : Cal P w K mg base "text_by" 63 ["shape"] (spF K C (mTB 60))) :
    FnOk P w K mg base (L2.CX P w) 64 f fd ["words", "shape"] (spF K C (mST DW DS)) := by
  refine fn_ok F scST (fun xs r ⟨_, _, _, h, _⟩ => by rw [h]; rfl) fun cdv A outer s H E hr xs r ⟨ks, ts, d, h1, hok, hs, h3⟩ => ?_
  subst h1
  have hr1 : Room 63 _ := hr
  have h_need_words := h_need_words.mono (show 2 ≤ 63 by omega)
  have h_need_shape := h_need_shape.mono (show 5 ≤ 63 by omega)
  refine ⟨_, (pss_cons (ps_expr (pe_cal h_need_words hr1 pxE (pa_cons (pv 0) pa_nil)))
      (pss_cons (ps_expr (pe_cal h_need_shape hr1 pxE (pa_cons (pv 0) (pa_cons (pv 1) pa_nil))))
      (pss_one (ps_ret (pe_cal h_text_by hr1 pxE (pa_cons (pv 1) pa_nil)))))), fun c hc => ?_⟩
  obtain ⟨rfl, rfl, hn, hm⟩ := hc
  have n0 : 0 < c.n := by rw [hn]; exact (by decide : 0 < 2)
  have n1 : 1 < c.n := by rw [hn]; exact (by decide : 1 < 2)
  have p1 : RunS c (S0 2 [.w ks ts, .d d]) (tDrop (tCall (spF c.K c.C (mNW DW)) [] E (tCons (tVar 0) tNil))) (.nx (S0 2 [.w ks ts, .d d])) := run_drop (ev_callF (z := .d .none) (ea_cons (ev_var n0 rfl) ea_nil) (.inl ⟨ks, ts, rfl, rfl⟩))
  rcases h3 with ⟨sh, rfl, hw, hz, rfl⟩ | ⟨hi, rfl⟩
  · have hi : isShape ks ts sh.dat = true := isShape_iff.mpr ⟨sh, rfl, hz, hw⟩
    have hd := sh.depth_le
    have ht := txt_len hok sh hw
    exact end_run (fun _ => True) (run_seq p1 (run_seq (run_drop (ev_callF (z := .d .none) (ea_cons (ev_var n0 rfl) (ea_cons (ev_var n1 rfl) ea_nil)) ⟨ks, ts, sh.dat, rfl, hs, by rw [hi]; rfl⟩)) (run_ret (ev_callF (ea_cons (ev_var n1 rfl) ea_nil) ⟨sh, rfl, by omega, by omega, rfl⟩))))
  · intro hE
    refine run_seq p1 (run_seq (S1 := ⟨fun _ => False, []⟩) (run_drop (ex_callF (z := .d .none) (ea_cons (ev_var n0 rfl) (ea_cons (ev_var n1 rfl) ea_nil)) ⟨ks, ts, d, rfl, hs, by rw [hi]; rfl⟩ hE)) ?_)
    exact fun A σ H L => L.wk.elim
def mRS (DW DT : Addr) (xs : List Dx) (r : Res) : Prop := (∃ ks ts dv o, xs = [.w ks ts, .d dv] ∧ Wok ks ts ∧ (∀ s, dv = .str s → s.length ≤ sizeLine) ∧ isDic dv = false ∧ Rd ks ts dv o ∧ r = match o with
    | some sh => .ok (.d sh.dat)
    | none => .ex DT) ∨ (∃ dv, xs = [.d .none, .d dv] ∧ r = .ex DW)
theorem ok_rs {f : Addr} {fd : FuncData} {DW DT : Addr} (F : Fun K "read_shape" "read_shape" sRS f fd) (XB : XT K mg "BadText" DT) (h_need_words : Cal P w K mg base "need_words" 2 ["words"] (spF K C (mNW DW))) (h_shape_in : Cal P w K mg base "shape_in" 123 ["words", "text"] (spF K C mSI)) :
    FnOk P w K mg base (L2.CX P w) 124 f fd ["words", "text"] (spF K C (mRS DW DT)) := by
  refine fn_ok F scRS (fun xs r h => by rcases h with ⟨_, _, _, _, h, _⟩ | ⟨_, h, _⟩ <;> rw [h] <;> rfl) fun cdv A outer s H E hr xs r h => ?_
  have hr1 : Room 123 _ := hr
  have h_need_words := h_need_words.mono (show 2 ≤ 123 by omega)
  refine ⟨_, (pss_cons (ps_expr (pe_cal h_need_words hr1 pxE (pa_cons (pv 0) pa_nil)))
      (pss_cons (ps_set (i := 2) scRS.nd rfl (.inl rfl) (pe_cal h_shape_in hr1 pxE (pa_cons (pv 0) (pa_cons (pv 1) pa_nil))))
      (pss_cons (ps_if (pt_cmpR op_isN1 (pv 2) pe_non (nomark _)) (pss_one (ps_raiseT XB)) pss_nil)
      (pss_one (ps_ret (pv 2)))))), fun c hc => ?_⟩
  obtain ⟨rfl, rfl, hn, hm⟩ := hc
  have n0 : 0 < c.n := by rw [hn]; exact (by decide : 0 < 3)
  have n1 : 1 < c.n := by rw [hn]; exact (by decide : 1 < 3)
  have n2 : 2 < c.n := by rw [hn]; exact (by decide : 2 < 3)
  rcases h with ⟨ks, ts, dv, o, rfl, hok, hsz, hdc, hrd, rfl⟩ | ⟨dv, rfl, rfl⟩
  · have p1 : RunS c (S0 3 [.w ks ts, .d dv]) (tDrop (tCall (spF c.K c.C (mNW DW)) [] E (tCons (tVar 0) tNil))) (.nx (S0 3 [.w ks ts, .d dv])) := run_drop (ev_callF (z := .d .none) (ea_cons (ev_var n0 rfl) ea_nil) (.inl ⟨ks, ts, rfl, rfl⟩))
    have p2 : RunS c (S0 3 [.w ks ts, .d dv]) (tAsg (tCall (spF c.K c.C mSI) [] E (tCons (tVar 0) (tCons (tVar 1) tNil))) (gName 2)) (.nx ⟨fun _ => True, [some (.x (.w ks ts)), some (.x (.d dv)), some (.x (.d (shD o)))]⟩) :=
      run_set (ev_callF (ea_cons (ev_var n0 rfl) (ea_cons (ev_var n1 rfl) ea_nil)) ⟨ks, ts, dv, o, rfl, hok, hsz, hdc, hrd, rfl⟩)
    cases o with
    | some sh =>
      have hb : isNon sh.dat = false := by cases sh <;> rfl
      exact end_run (fun _ => True) (run_seq p1 (run_seq p2 (run_seq (run_ifF (eb_test (ev_is (ev_op (ev_var n2 rfl) ev_non rv_isN) (by show _ = Dx.d (.bool false); rw [← hb]; rfl))) run_next) (run_ret (ev_var n2 rfl)))))
    | none => exact fun hE => run_seq p1 (run_seq p2 (run_stop (o := .rt (.d .none) fun _ => False) (run_ifT (eb_test (ev_op (ev_var n2 rfl) ev_non rv_isN)) (run_raise hE)) rfl))
  · intro hE
    refine run_seq (S1 := ⟨fun _ => False, []⟩) (run_drop (ex_callF (z := .d .none) (ea_cons (ev_var n0 rfl) ea_nil) (.inr ⟨rfl, rfl⟩) hE)) ?_
    exact fun A σ H L => L.wk.elim
end
end K2

/-! K2j -/
set_option Elab.async false
set_option linter.all false
set_option autoImplicit false
set_option maxRecDepth 100000
set_option maxHeartbeats 4000000
namespace K2
open PySem PySem.Spec PyProof.Rows L2 Tk
abbrev sIL : Stmt := topS 9
theorem scIL : FnScope ["thing"] ["thing"] (defScope sIL) := ⟨rfl, rfl, rfl, by decide +kernel, rfl, by decide +kernel, by decide +kernel⟩
abbrev sPW : Stmt := topS 10
theorem scPW : FnScope ["thing", "sign"] ["thing"] (defScope sPW) := ⟨rfl, rfl, rfl, by decide +kernel, rfl, by decide +kernel, by decide +kernel⟩
abbrev sNA : Stmt := topS 15
theorem scNA : FnScope ["thing", "most", "others", "word"] ["thing", "most", "others"] (defScope sNA) := ⟨rfl, rfl, rfl, by decide +kernel, rfl, by decide +kernel, by decide +kernel⟩

def clsS (s : Stmt) (i : Nat) : Stmt := match s with
  | .ClassDef (body := b) .. => b.getD i (.Pass ⟨0, 0, 0, 0⟩)
  | _ => .Pass ⟨0, 0, 0, 0⟩
abbrev sInit : Stmt := clsS (topS 16) 0
theorem scInit : FnScope ["self", "kinds", "ties"] ["self", "kinds", "ties"] (defScope sInit) := ⟨rfl, rfl, rfl, by decide +kernel, rfl, by decide +kernel, by decide +kernel⟩
section
variable {c : Cn} {S S1 S2 S3 : Stt} {ta tb tc : TE} {x y z : Dx} {b : Bool}
theorem ev_chainT {r r' : R2} (h1 : EvS c S ta x S1) (h2 : EvS c S1 tb y S2) (hr : RvS c S2 r x y (.d (.bool true))) (h3 : EvS c S2 tc z S3) (hr' : RvS c S3 r' y z (.d (.bool b))) : EvS c S (tChain r r' ta tb tc) (.d (.bool b)) S3 := fun A σ H L Q q =>
  h1 A σ H L _ fun v H1 L1 e1 r1 => h2 A σ H1 L1 _ fun u H2 L2 e2 r2 => hr A σ H2 L2 v u (r1.mono e2) r2 _ fun w H3 e3 r3 => by
    obtain ⟨L3, s3⟩ := L2.grow e3
    refine ⟨true, Dt.bl_inv r3, ?_⟩
    rw [if_pos rfl]
    exact h3 A σ H3 L3 _ fun w4 H4 L4 e4 r4 => hr' A σ H4 L4 u w4 ((r2.mono s3).mono e4) r4 _ fun w5 H5 e5 r5 => by
      obtain ⟨L5, s5⟩ := L4.grow e5
      exact q w5 H5 L5 ((((e1.trans e2).trans s3).trans e4).trans s5) r5
end
theorem ev_leT {c : Cn} {S : Stt} {i j : Int} (h : i ≤ j) : RvS c S (rI0 fun i j => .bl (decide (i ≤ j))) (.d (.int i)) (.d (.int j)) (.d (.bool true)) := fun A σ H L v w rv rw' Q q =>
  rv_cmp (g := fun i j => decide (i ≤ j)) A σ H L v w rv rw' Q fun u H' e r => q u H' e (by rw [decide_eq_true h] at r; exact r)
structure MT2 (K : PySem.W.Frag) (mg : Str → Option Value) : Prop where
  kp : ∃ a, mg "KEPT" = some (.ref a) ∧ ∀ H, SqT K H a (([("any" : Str), "none", "both", "tied"] : List Str).map V.str)
section
variable {P : Program} {w : World} {K : PySem.W.Frag} {mg : Str → Option Value} {base : Heap} {C : Addr}

def mIL (xs : List Dx) (r : Res) : Prop := ∃ ds, xs = [.d (.list ds)] ∧ r = .ok (.d (.bool true))
theorem ok_il {f : Addr} {fd : FuncData} (F : Fun K "is_list" "is_list" sIL f fd) (M : MT P w K mg base C) : FnOk P w K mg base (L2.CX P w) 1 f fd ["thing"] (spF K C mIL) := by
  refine fn_ok F scIL (fun xs r ⟨_, h, _⟩ => by rw [h]; rfl) fun cdv A outer s H E hr xs r ⟨ds, h1, h3⟩ => ?_
  subst h1 h3
  refine ⟨_, (pss_one (ps_ret (pe_callB call_isiT (by rfl) (M.B "isinstance" (by decide)) boot_isinstance (pa_cons (pv 0) (pa_cons (pe_tup (pa_cons (pe_bltn (v := .ty "list") (by rfl) (M.B "list" (by decide)) (by decide +kernel) rfl) (pa_cons (pe_bltn (v := .ty "tuple") (by rfl) (M.B "tuple" (by decide)) (by decide +kernel) rfl) pa_nil))) pa_nil))))), fun c hc => ?_⟩
  obtain ⟨rfl, rfl, hn, hm⟩ := hc
  exact end_ret (ev_is (ev_isi2 (d := .list ds) (ev_var (by rw [hn]; exact Nat.one_pos) rfl) (kit_lst _) (kit_tup _)) rfl)
def mPW (xs : List Dx) (r : Res) : Prop := ∃ k : Str, xs = [.d (.str k)] ∧ Pw k ∧ r = .ok (.d (.bool true))
theorem ok_pw {f : Addr} {fd : FuncData} (F : Fun K "is_plain_word" "is_plain_word" sPW f fd) (M : MT P w K mg base C) : FnOk P w K mg base (L2.CX P w) 2 f fd ["thing"] (spF K C mPW) := by
  refine fn_ok F scPW (fun xs r ⟨_, h, _⟩ => by rw [h]; rfl) fun cdv A outer s H E hr xs r ⟨k, h1, hp, h3⟩ => ?_
  subst h1 h3
  obtain ⟨tl, gL⟩ := M.lt
  refine ⟨_, (pss_one (ps_ret (pe_and (pe_callB call_isi (by rfl) (M.B "isinstance" (by decide)) boot_isinstance (pa_cons (pv 0) (pa_cons (pe_bltn (v := .ty "str") (by rfl) (M.B "str" (by decide)) (by decide +kernel) rfl) pa_nil))) (pe_and (pe_chain op_le op_le pe_int (pe_callB call_lenStr (by rfl) (M.B "len" (by decide)) boot_len (pa_cons (pv 0) pa_nil)) pe_int) (pe_one (pe_callB (cr_all rfl) (by rfl) (M.B "all" (by decide)) boot_all (pa_cons (pe_lc (own := [("sign", 1)]) (g := gName 1) (tt := tYes) rfl scPW.nd (pi_str (pv 0)) (blkOk_by (N := ["thing", "sign"]) (sc := defScope sPW) (by decide +kernel)) (fun _ _ _ _ _ => pg_name (i := 1) scPW.nd rfl (.inl rfl)) (fun _ _ _ _ _ => pts_nil) (fun _ _ _ _ _ => (pe_cmpR op_sign (pv 1) (pe_glob (v := .str "abcdefghijklmnopqrstuvwxyz") (by rfl) gL ⟨_, rfl⟩) rfl))) pa_nil))))))), fun c hc => ?_⟩
  obtain ⟨rfl, rfl, hn, hm⟩ := hc
  have n0 : 0 < c.n := by rw [hn]; exact (by decide : 0 < 2)
  have n1 : 1 < c.n := by rw [hn]; exact (by decide : 1 < 2)
  have h8 := hp.2.1
  have hz : k.length ≤ sizeLine := Nat.le_trans h8 (by decide)
  have v0 : EvS c (S0 2 [.d (.str k)]) (tVar 0) (.d (.str k)) (S0 2 [.d (.str k)]) := ev_var n0 rfl
  refine end_ret (ev_and1 (ev_isi v0 (kit_str _)) (ev_and1 (ev_chainT (y := .d (.int (k.length : Int))) ev_int (ev_lenS v0 hz) (ev_leT ?_) ev_int (ev_leT ?_)) ?_))
  · have := hp.1
    omega
  · omega
  · have q := ev_lcMap (c := c) (S := S0 2 [.d (.str k)]) (W := fun _ => True) (G := (S0 2 [.d (.str k)]).G) (i := 1) (te := tOp (rSign false) (tVar 1) (tC (.str "abcdefghijklmnopqrstuvwxyz"))) (wi := iStr (tVar 0)) (fun n : Nat => Dx.d (.str ⟨#[n]⟩)) (fun n => PyData.bool (decide (n ∈ cl "abcdefghijklmnopqrstuvwxyz"))) (cl k) n1 rfl (by
        have e := ei_str v0
        unfold Tk.signs at e
        rw [List.map_map] at e
        exact e) (by rw [cl_len]; omega) fun acc n hn => ev_op (ev_var n1 rfl) ev_str rv_sign
    have e1 : (cl k).map (fun n => PyData.bool (decide (n ∈ cl "abcdefghijklmnopqrstuvwxyz"))) = ((cl k).map fun n => decide (n ∈ cl "abcdefghijklmnopqrstuvwxyz")).map PyData.bool := by rw [List.map_map]; rfl
    rw [e1] at q
    refine ev_is (ev_all q) ?_
    congr 2
    rw [List.all_map]
    refine List.all_eq_true.mpr fun n hn => ?_
    have h := hp.2.2.1 n hn
    have e2 : cl "abcdefghijklmnopqrstuvwxyz" = (List.range 26).map (97 + ·) := by decide +kernel
    refine decide_eq_true ?_
    rw [e2, List.mem_map]
    exact ⟨n - 97, List.mem_range.mpr (by omega), by omega⟩
def mNA (xs : List Dx) (r : Res) : Prop := ∃ (ks : List Str) (most : Nat) (os : List Str) (od : PyData), xs = [.d (.list (ks.map .str)), .d (.int (most : Int)), .d od] ∧ (od = .tuple (os.map .str) ∨ od = .list (os.map .str)) ∧ (∀ k ∈ ks, Pw k) ∧ ks.Nodup ∧ ks.length ≤ most ∧ most ≤ 100 ∧ (∀ k ∈ ks, k ∉ os) ∧ r = .ok (.d (.bool true))
theorem ok_na {f : Addr} {fd : FuncData} (F : Fun K "are_new_words" "are_new_words" sNA f fd) (M : MT P w K mg base C) (M2 : MT2 K mg) (h_is_list : Cal P w K mg base "is_list" 2 ["thing"] (spF K C mIL)) (h_is_plain_word : Cal P w K mg base "is_plain_word" 2 ["thing"] (spF K C mPW)) : FnOk P w K mg base (L2.CX P w) 3 f fd ["thing", "most", "others"] (spF K C mNA) := by
  refine fn_ok F scNA (fun xs r ⟨_, _, _, _, h, _⟩ => by rw [h]; rfl) fun cdv A outer s H E hr xs r ⟨ks, most, os, od, h1, ho, hp, hu, hz, hz2, hno, h3⟩ => ?_
  subst h1 h3
  have hr1 : Room 2 _ := hr
  obtain ⟨dK, gK, sK⟩ := M2.kp
  refine ⟨_, (pss_cons (ps_if (PW.pt (pw_or (pt_not (pt_val (pe_cal h_is_list hr1 pxE (pa_cons (pv 0) pa_nil)))) (pw_or (pt_cmpR op_gt (pe_callB call_lenSq (by rfl) (M.B "len" (by decide)) boot_len (pa_cons (pv 0) pa_nil)) (pv 1) (nomark _)) (pw_or1 (pt_not (pt_val (pe_callB (cr_all rfl) (by rfl) (M.B "all" (by decide)) boot_all (pa_cons (pe_lc (own := [("word", 3)]) (g := gName 3) (tt := tYes) rfl scNA.nd (pi_list (pv 0)) (blkOk_by (N := ["thing", "most", "others", "word"]) (sc := defScope sNA) (by decide +kernel)) (fun _ _ _ _ _ => pg_name (i := 3) scNA.nd rfl (.inl rfl)) (fun _ _ _ _ _ => pts_nil) (fun _ _ _ _ _ => (pe_cal h_is_plain_word hr1 passL (pa_cons (pv 3) pa_nil)))) pa_nil)))))))) (pss_one (ps_ret pe_bl)) pss_nil)
      (pss_one (ps_ret (pe_and (pe_cmpR op_eq (pe_lenSetU rfl (by rfl) (M.B "len" (by decide)) (by rfl) (M.B "set" (by decide)) (pv 0)) (pe_callB call_lenSq (by rfl) (M.B "len" (by decide)) boot_len (pa_cons (pv 0) pa_nil)) (nomark _)) (pe_one (pe_not (pe_callB (cr_any rfl) (by rfl) (M.B "any" (by decide)) boot_any (pa_cons (pe_lc (own := [("word", 3)]) (g := gName 3) (tt := tYes) rfl scNA.nd (pi_list (pv 0)) (blkOk_by (N := ["thing", "most", "others", "word"]) (sc := defScope sNA) (by decide +kernel)) (fun _ _ _ _ _ => pg_name (i := 3) scNA.nd rfl (.inl rfl)) (fun _ _ _ _ _ => pts_nil) (fun _ _ _ _ _ => (pe_or (pe_cmpR (show OpR _ _ (rIn K false) from op_in_seq) (pv 3) (pe_glob (v := .ref dK) (by rfl) gK rfl) rfl) (pe_one (pe_cmpR (show OpR _ _ (rIn K false) from op_in_seq) (pv 3) (pv 2) rfl))))) pa_nil)))))))), fun c hc => ?_⟩
  obtain ⟨rfl, rfl, hn, hm⟩ := hc
  have n0 : 0 < c.n := by rw [hn]; exact (by decide : 0 < 4)
  have n1 : 1 < c.n := by rw [hn]; exact (by decide : 1 < 4)
  have n2 : 2 < c.n := by rw [hn]; exact (by decide : 2 < 4)
  have n3 : 3 < c.n := by rw [hn]; exact (by decide : 3 < 4)
  obtain ⟨S, hS⟩ : ∃ S, S = S0 4 [.d (.list (ks.map .str)), .d (.int (most : Int)), .d od] := ⟨_, rfl⟩
  have v0 : EvS c S (tVar 0) (.d (.list (ks.map .str))) S := by rw [hS]; exact ev_var n0 rfl
  have v1 : EvS c S (tVar 1) (.d (.int (most : Int))) S := by rw [hS]; exact ev_var n1 rfl
  have ei : EvI c S (iList c.K (tVar 0)) (ks.map fun k => Dx.d (.str k)) S := by
    have e := ei_list v0
    rw [List.map_map] at e
    exact e
  refine end_run (fun _ => True) ?_
  show RunS c (S0 4 [.d (.list (ks.map .str)), .d (.int (most : Int)), .d od]) _ _
  rw [← hS]
  have hW : S.W = fun _ => True := by rw [hS]; rfl
  have hG : S.G[3]? = some none := by rw [hS]; rfl
  have g3 : ∀ x : Dx, (S.G.set 3 (some (.x x)))[3]? = some (some (.x x)) := fun x => by rw [hS]; rfl
  have g2 : ∀ x : Dx, (S.G.set 3 (some (.x x)))[2]? = some (some (.x (.d od))) := fun x => by rw [hS]; rfl
  have gl : ∀ (x : Dx) (acc : List PyData) (i : Nat) (e : En), (S.G.set 3 (some (.x x)))[i]? = some (some e) → (Sb S.W (S.G.set 3 (some (.x x))) acc).G[i]? = some (some e) := fun x acc i e h => by
    show (S.G.set 3 (some (.x x)) ++ [some (.own acc)])[i]? = _
    rw [List.getElem?_append_left (List.getElem?_eq_some_iff.mp h).1]
    exact h
  have p1 := ev_lcMap (c := c) (S := S) (W := S.W) (G := S.G) (i := 3) (te := tCall (spF c.K c.C mPW) [] E0 (tCons (tVar 3) tNil)) (wi := iList c.K (tVar 0)) (fun k : Str => Dx.d (.str k)) (fun _ => PyData.bool true) ks n3 hG ei (by omega) fun acc k hk => ev_callF (ea_cons (ev_var n3 (gl _ _ _ _ (g3 _))) ea_nil) ⟨k, rfl, hp k hk, rfl⟩
  have e1 : ks.map (fun _ => PyData.bool true) = (ks.map fun _ => true).map PyData.bool := by rw [List.map_map]; rfl
  rw [e1] at p1
  have p2 := ev_all p1
  have p2' := ev_is p2 (w := .d (.bool true)) (by congr 2; rw [List.all_map]; exact List.all_eq_true.mpr fun _ _ => rfl)
  have p3 := ev_lcMap (c := c) (S := S) (W := S.W) (G := S.G) (i := 3) (te := tOrV (tOp (rIn c.K false) (tVar 3) (tC (.ref dK))) (tOp (rIn c.K false) (tVar 3) (tVar 2))) (wi := iList c.K (tVar 0)) (fun k : Str => Dx.d (.str k)) (fun _ => PyData.bool false) ks n3 hG ei (by omega) fun acc k hk => by
    refine ev_or0 (ev_is (ev_op (ev_var n3 (gl _ _ _ _ (g3 _))) (ev_glob (ds := ([("any" : Str), "none", "both", "tied"] : List Str).map .str) sK fun H => DtA.strs _) rv_inT) ?_) ?_
    · show Dx.d (.bool (decide _)) = _
      rw [decide_eq_false (hp k hk).2.2.2]
    · rcases ho with rfl | rfl
      · refine ev_is (ev_op (ev_var n3 (gl _ _ _ _ (g3 _))) (ev_var n2 (gl _ _ _ _ (g2 _))) rv_inT) ?_
        show Dx.d (.bool (decide _)) = _
        rw [decide_eq_false (hno k hk)]
      · refine ev_is (ev_op (ev_var n3 (gl _ _ _ _ (g3 _))) (ev_var n2 (gl _ _ _ _ (g2 _))) rv_inL) ?_
        show Dx.d (.bool (decide _)) = _
        rw [decide_eq_false (hno k hk)]
  have e3 : ks.map (fun _ => PyData.bool false) = (ks.map fun _ => false).map PyData.bool := by rw [List.map_map]; rfl
  rw [e3] at p3
  have p4 := ev_is (ev_any p3) (w := .d (.bool false)) (by congr 2; rw [List.any_map]; exact List.any_eq_false.mpr fun _ _ => by simp)
  have ln := ev_lenL v0
  rw [List.length_map] at ln
  refine run_seq (run_ifF (eb_or0 (eb_not (eb_B (ev_callF (m := mIL) (ea_cons v0 ea_nil) ⟨_, rfl, rfl⟩))) (eb_or0 (eb_is (eb_test (ev_op ln v1 rv_cmp)) (decide_eq_false (by omega))) (eb_not (eb_B p2')))) run_next) ?_
  have fin : EvS c S _ _ S := ev_and1 (ev_is (ev_op (ev_lenSetU v0 hu (by unfold scanBound; omega)) ln rv_eqI) (by rw [decide_eq_true rfl])) (ev_notV p4)
  have r := run_ret fin
  rw [hW] at r
  exact r
end
end K2

/-! K2k -/
set_option Elab.async false
set_option linter.all false
set_option autoImplicit false
set_option maxRecDepth 100000
set_option maxHeartbeats 4000000
namespace K2
open PySem PySem.Spec PyProof.Rows L2 Tk
/-- words as they may be told -/
structure GoodW (ks ts : List Str) : Prop where
  kp : ∀ k ∈ ks, Pw k
  ku : ks.Nodup
  kl : ks.length ≤ 6
  tp : ∀ k ∈ ts, Pw k
  tu : ts.Nodup
  tl : ts.length ≤ 3
  no : ∀ k ∈ ts, k ∉ ks
theorem GoodW.ok {ks ts : List Str} (g : GoodW ks ts) : Wok ks ts := ⟨g.kp, g.tp⟩
def spInit (K : PySem.W.Frag) (C : Addr) : Sp := fun vs H Q E => ∃ (x dx : Addr) (kv tv : V) (ks ts : List Str) (R : Addr → Prop), vs = [.ref x, kv, tv] ∧ H x = some (.ins C dx []) ∧ R x ∧ (∀ b, R b → H b ≠ none) ∧ RxA K C (hidP R H) [kv, tv] [.d (.list (ks.map .str)), .d (.list (ts.map .str))] ∧ GoodW ks ts ∧
  ∀ H' vk vt, (∀ b o, b ≠ x → H b = some o → H' b = some o) → H' x = some (.ins C dx [("w_kinds", vk), ("w_ties", vt)]) → Dt K (hidP R H') vk (.tuple (ks.map .str)) → Dt K (hidP R H') vt (.tuple (ts.map .str)) → Q .non H'
structure MT3 (K : PySem.W.Frag) (C : Addr) : Prop where
  nk : NoAttr K C "w_kinds"
  nt : NoAttr K C "w_ties"
section
variable {P : Program} {w : World} {K : PySem.W.Frag} {mg : Str → Option Value} {base : Heap} {C : Addr}

theorem ok_init {f : Addr} {fd : FuncData} {D1 D2 : Addr} (F : Fun K "__init__" "Words.__init__" sInit f fd) (M : MT P w K mg base C) (M3 : MT3 K C) (XK1 : XT K mg "BadKinds" D1) (XK2 : XT K mg "BadTies" D2) (h_are_new_words : Cal P w K mg base "are_new_words" 3 ["thing", "most", "others"] (spF K C mNA)) :
    FnOk P w K mg base (L2.CX P w) 4 f fd ["self", "kinds", "ties"] (spInit K C) := by
  refine F.okX scInit (fun vs H Q E ⟨_, _, _, _, _, _, _, h, _⟩ => by rw [h]; rfl) fun cdv A outer s H vs Q E hr ⟨x, dx, kv, tv, ks, ts, R, hv, hx, hRx, hR, hxs, hg, hq⟩ => ?_
  subst hv
  have hr1 : Room 3 _ := hr
  obtain ⟨t6, gM6⟩ := M.mKi
  obtain ⟨t3, gM3⟩ := M.mTi
  refine ⟨_, (pss_cons (ps_if (pt_not (pt_val (pe_cal h_are_new_words hr1 pxE (pa_cons (pv 1) (pa_cons (pe_glob (v := .int 6) (by rfl) gM6 ⟨_, rfl⟩) (pa_cons (pe_tup pa_nil) pa_nil)))))) (pss_one (ps_raiseT XK1)) pss_nil)
      (pss_cons (ps_if (pt_not (pt_val (pe_cal h_are_new_words hr1 pxE (pa_cons (pv 2) (pa_cons (pe_glob (v := .int 3) (by rfl) gM3 ⟨_, rfl⟩) (pa_cons (pv 1) pa_nil)))))) (pss_one (ps_raiseT XK2)) pss_nil)
      (pss_one (ps_asg (pe_tup (pa_cons (pe_callTy call_tupOf (by rfl) (M.B "tuple" (by decide)) (by decide +kernel) (pa_cons (pv 1) pa_nil)) (pa_cons (pe_callTy call_tupOf (by rfl) (M.B "tuple" (by decide)) (by decide +kernel) (pa_cons (pv 2) pa_nil)) pa_nil))) (pg_tup (n := 2) rfl (pgs_cons (pg_fld (pv 0)) (pgs_cons (pg_fld (pv 0)) pgs_nil))))))), ?_⟩
  have L := sl_start (K := K) (C := C) (N := ["self", "kinds", "ties"]) (vs := [.ref x, kv, tv]) (xs := [.raw (.ref x), .d (.list (ks.map .str)), .d (.list (ts.map .str))]) (H := H) (R := R) (Mt := fun b => b = x) (W := fun H => H x = some (.ins C dx []))
    (fun b hb => by rw [hb]; exact hRx) (.cons rfl hxs) hR (Nat.le_refl 3) hx (fun H H' hh hh2 => by rw [hh.p x hRx]; exact hh2)
  generalize hc : (⟨K, C, H, R, fun b => b = x, _, ["self", "kinds", "ties"].length⟩ : Cn) = c at L
  have cK : c.K = K := by rw [← hc]
  have cC : c.C = C := by rw [← hc]
  have cn : c.n = 3 := by rw [← hc]; rfl
  have cP : c.P = R := by rw [← hc]
  have cM : c.Mt = fun b => b = x := by rw [← hc]
  have cH : c.H0 = H := by rw [← hc]
  subst cK cC
  have n0 : 0 < c.n := by rw [cn]; decide
  have n1 : 1 < c.n := by rw [cn]; decide
  have n2 : 2 < c.n := by rw [cn]; decide
  obtain ⟨S, hS⟩ : ∃ S : Stt, S = ⟨fun H => H x = some (.ins c.C dx []), (S0 3 [.raw (.ref x), .d (.list (ks.map .str)), .d (.list (ts.map .str))]).G⟩ := ⟨_, rfl⟩
  have L : Sl c (fun _ => 0) S (L2.start ["self", "kinds", "ties"] [.ref x, kv, tv]) H := by
    rw [hS]
    exact L
  have v1 : EvS c S (tVar 1) (.d (.list (ks.map .str))) S := ev_var n1 (by rw [hS]; rfl)
  have v2 : EvS c S (tVar 2) (.d (.list (ts.map .str))) S := ev_var n2 (by rw [hS]; rfl)
  have r1 : RunS c S (tIfS (tNot (tB (tCall (spF c.K c.C mNA) [] E (tCons (tVar 1) (tCons (tC (.int 6)) (tCons (tTup tNil) tNil)))))) (tRaise D1 E) tNext) (.nx S) :=
    run_ifF (eb_not (eb_B (ev_callF (m := mNA) (z := .d (.bool true)) (ea_cons v1 (ea_cons ev_int (ea_cons (ev_tup (ds := []) ea_nil (Nat.zero_le _)) ea_nil))) ⟨ks, 6, [], .tuple [], rfl, .inl rfl, hg.kp, hg.ku, hg.kl, by decide, fun _ _ h => (by cases h), rfl⟩))) run_next
  have r2 : RunS c S (tIfS (tNot (tB (tCall (spF c.K c.C mNA) [] E (tCons (tVar 2) (tCons (tC (.int 3)) (tCons (tVar 1) tNil)))))) (tRaise D2 E) tNext) (.nx S) :=
    run_ifF (eb_not (eb_B (ev_callF (m := mNA) (z := .d (.bool true)) (ea_cons v2 (ea_cons ev_int (ea_cons v1 ea_nil))) ⟨ts, 3, ks, .list (ks.map .str), rfl, .inr rfl, hg.tp, hg.tu, hg.tl, by decide, hg.no, rfl⟩))) run_next
  have e3 : EvS c S (tTup (tCons (tCB (rTupOf c.K) (tCons (tVar 1) tNil)) (tCons (tCB (rTupOf c.K) (tCons (tVar 2) tNil)) tNil))) (.d (.tuple [.tuple (ks.map .str), .tuple (ts.map .str)])) S :=
    ev_tup (ds := [.tuple (ks.map .str), .tuple (ts.map .str)]) (ea_cons (ev_tupL v1) (ea_cons (ev_tupL v2) ea_nil)) (by simp)
  refine r1 _ _ _ L _ fun A1 σ1 H1 L1 s1 => r2 A1 σ1 H1 L1 _ fun A2 σ2 H2 L2 s2 => ?_
  dsimp only
  unfold tAsg
  refine e3 A2 σ2 H2 L2 _ fun v H3 L3 s3 rv => ?_
  obtain ⟨a, us, rfl, hu, hd⟩ := Dt.tup_inv rv
  cases hd with
  | cons d1 hd =>
    cases hd with
    | cons d2 hd =>
      cases hd
      obtain ⟨y0, y1, y2⟩ := L3.val 0 (.raw (.ref x)) n0 (by rw [hS]; rfl)
      obtain rfl : y0 = .ref x := y2
      have w3 : H3 x = some (.ins c.C dx []) := by
        have := L3.wk
        rw [hS] at this
        exact this
      have nx : ∀ {b : Addr} {o : HO}, hid c A2 S H3 b = some o → b ≠ x := fun {b o} e z => by
        have := (hidP_some e).2
        exact this (.inl (by rw [z, cP]; exact hRx))
      refine ⟨a, _, rfl, same_sqT hidP_le hu, rfl, _, _, rfl, ⟨_, y1, x, c.C, dx, [], rfl, w3, M.W.cl, M3.nk, by decide, _, _, rfl, ⟨_, y1, x, c.C, dx, _, rfl, upd_same, M.W.cl, M3.nt, (show 1 < 1000 by decide), rfl, ?_⟩⟩⟩
      have sm : ∀ b o, b ≠ x → H b = some o → H3 b = some o := fun b o nb e => L3.sm b o (by rw [cM]; exact nb) (by rw [cH]; exact e)
      have up : ∀ o1 o2 : HO, Same (hid c A2 S H3) (hidP R (upd (upd H3 x o1) x o2)) := fun o1 o2 b o e => by
        have nb := nx e
        obtain ⟨e1, e2⟩ := hidP_some e
        rw [hidP_neg (fun z => e2 (.inl (by rw [cP]; exact z))), upd_ne nb, upd_ne nb]
        exact e1
      exact hq _ _ _ (fun b o nb e => by rw [upd_ne nb, upd_ne nb]; exact sm b o nb e) upd_same (d1.mono (up _ _)) (d2.mono (up _ _))
end
/-- Words(kinds, ties) -/
theorem ev_mkW {c : Cn} {S S1 : Stt} {t : TA} {E : XK} {ks ts : List Str} (h : EvA c S t [.d (.list (ks.map .str)), .d (.list (ts.map .str))] S1) (hg : GoodW ks ts) : EvS c S (tMake c.C (spInit c.K c.C) [] E t) (.w ks ts) S1 := fun A σ H L Q q => h A σ H L _ fun vs H1 L1 e1 r1 => fun x dx hx hdx hne => by
  have g1 : Same H1 (upd (upd H1 dx (.own x)) x (.ins c.C dx [])) := fun b o e => by
    rw [upd_ne (ne_of_none e hx), upd_ne (ne_of_none e hdx)]
    exact e
  have nx := L1.new hx
  cases r1 with
  | cons rk r1 =>
    cases r1 with
    | cons rt r1 =>
      cases r1
      refine ⟨x, dx, _, _, ks, ts, fun b => (c.P b ∨ S1.owns A b) ∨ b = x, rfl, upd_same, .inr rfl, fun b hb z => ?_, ?_, hg, fun H' vk vt hs hx' dk dt => ⟨rfl, ?_⟩⟩
      · rcases hb with hb | rfl
        · cases e : H1 b with
          | none => exact L1.hidAlive hb e
          | some o =>
            rw [g1 _ _ e] at z
            cases z
        · rw [upd_same] at z
          cases z
      · have up : Same (hid c A S1 H1) (hidP (fun b => (c.P b ∨ S1.owns A b) ∨ b = x) (upd (upd H1 dx (.own x)) x (.ins c.C dx []))) := fun b o e => by
          obtain ⟨a1, a2⟩ := hidP_some e
          have nb : b ≠ x := ne_of_none a1 hx
          rw [hidP_neg (fun z => z.elim a2 nb)]
          exact g1 _ _ a1
        exact .cons (rk.mono up) (.cons (rt.mono up) .nil)
      · have g2 : Same H1 H' := fun b o e => hs b o (ne_of_none e hx) (g1 _ _ e)
        obtain ⟨L2, e2⟩ := L1.grow g2
        have dn : Same (hidP (fun b => (c.P b ∨ S1.owns A b) ∨ b = x) H') (hid c A S1 H') := hidP_sub (fun b z => .inl z) fun b o _ z => z
        refine q _ H' L2 (e1.trans e2) ⟨x, dx, vk, vt, rfl, ?_, dk.mono dn, dt.mono dn⟩
        show hidP _ _ x = _
        rw [hidP_neg nx]
        exact hx'
end K2

/-! K2l -/
set_option Elab.async false
set_option linter.all false
set_option autoImplicit false
set_option maxRecDepth 100000
set_option maxHeartbeats 4000000
namespace Tk
open PySem PySem.Spec PyProof.Rows L2
section
variable {c : Cn} {S S1 S2 : Stt} {te : TE} {i : Int} {b : Bool}
theorem ev_neg (h : EvS c S te (.d (.int i)) S1) : EvS c S (tUn (rU fun i => .int (-i)) te) (.d (.int (-i))) S1 := fun A σ H L Q q => h A σ H L _ fun v H1 L1 e1 r1 => ⟨i, Dt.int_inv r1, q _ H1 L1 e1 (Dt.int _)⟩
def rInt1 : List V → Hp → VK → Prop := fun xs H Q => (∃ i, xs = [.int i] ∧ Q (.int i) H) ∨ ∃ k, xs = [.bl k] ∧ Q (.int (if k then 1 else 0)) H
theorem call_intOf {X : Cx} : CallR X (.type "int") rInt1 := call_int1
theorem ev_intI (h : EvS c S te (.d (.int i)) S1) : EvS c S (tCB rInt1 (tCons te tNil)) (.d (.int i)) S1 := fun A σ H L Q q => h A σ H L _ fun v H1 L1 e1 r1 => .inl ⟨i, by rw [Dt.int_inv r1], q _ H1 L1 e1 (Dt.int _)⟩
theorem ev_intB (h : EvS c S te (.d (.bool b)) S1) : EvS c S (tCB rInt1 (tCons te tNil)) (.d (.int (if b then 1 else 0))) S1 := fun A σ H L Q q => h A σ H L _ fun v H1 L1 e1 r1 => .inr ⟨b, by rw [Dt.bl_inv r1], q _ H1 L1 e1 (Dt.int _)⟩
/-- an item of an own list -/
theorem ev_ixO {j k : Nat} {ds : List PyData} {d : PyData} (hn : j < c.n) (hj : S.G[j]? = some (some (En.own ds))) (hi : S1 = S) (h : EvS c S te (.d (.int (k : Int))) S1) (hd : ds[k]? = some d) : EvS c S (tOp (rIx c.K) (tVar j) te) (.d d) S := fun A σ H L Q q => by
  subst hi
  obtain ⟨e1, e2, e3, xs, e4, e5⟩ := L.own j ds hj
  refine ⟨_, e1 hn, h A σ H L _ fun v H1 L1 s1 r1 => ?_⟩
  obtain ⟨a1, a2, a3, ys, a4, a5⟩ := L1.own j ds hj
  obtain ⟨u, u1, u2⟩ := a5.get hd
  refine .inl ⟨_, ys, (k : Int), u, rfl, Dt.int_inv r1, .inl (.inl a4), ?_, q _ H1 L1 s1 u2⟩
  unfold atI
  rw [a5.len, ixN_nat (List.getElem?_eq_some_iff.mp hd).1]
  exact u1
end
end Tk
namespace K2
open PySem PySem.Spec PyProof.Rows L2 Tk
abbrev sLI : Stmt := topS 47
theorem scLI : FnScope ["shape"] ["shape"] (defScope sLI) := ⟨rfl, rfl, rfl, by decide +kernel, rfl, by decide +kernel, by decide +kernel⟩
abbrev sLT : Stmt := topS 49
theorem scLT : FnScope ["shape", "first", "one"] ["shape"] (defScope sLT) := ⟨rfl, rfl, rfl, by decide +kernel, rfl, by decide +kernel, by decide +kernel⟩
abbrev sWO : Stmt := topS 48
theorem scWO : FnScope ["told"] ["told"] (defScope sWO) := ⟨rfl, rfl, rfl, by decide +kernel, rfl, by decide +kernel, by decide +kernel⟩
abbrev sLS : Stmt := topS 50
theorem scLS : FnScope ["text", "depth", "found", "at", "sign"] ["text"] (defScope sLS) := ⟨rfl, rfl, rfl, by decide +kernel, rfl, by decide +kernel, by decide +kernel⟩

structure MkW (P : Program) (w : World) (K : PySem.W.Frag) (mg : Str → Option Value) (base : Heap) (C : Addr) : Prop where
  ex : ∃ f fd, Mk K C f ∧ FnOk P w K mg base (L2.CX P w) 4 f fd ["self", "kinds", "ties"] (spInit K C) ∧ L2.Binds K fd ["self", "kinds", "ties"] []
section
variable {P : Program} {w : World} {K : PySem.W.Frag} {mg : Str → Option Value} {base : Heap} {C : Addr}
theorem ok_li {f : Addr} {fd : FuncData} (F : Fun K "_law_inner" "_law_inner" sLI f fd) : FnOk P w K mg base (L2.CX P w) 1 f fd ["shape"] (spF K C mInner) := by
  refine fn_ok F scLI (fun xs r ⟨x, rest, h, _⟩ => by rw [h]; rfl) fun cdv A outer s H E hr xs r ⟨x, rest, h1, h3⟩ => ?_
  subst h1 h3
  refine ⟨_, pss_one (ps_ret (pe_ifExp (pt_cmpR op_eq (pe_ix ix_seq (pv 0) pe_int (fun _ _ => rfl)) pe_str (nomark _)) (pe_slice sl_tupA (pv 0) (po_some pe_int) po_none)
    (pe_ifExp (pt_cmpR op_eq (pe_ix ix_seq (pv 0) pe_int (fun _ _ => rfl)) pe_str (nomark _)) (pe_slice sl_tupA (pv 0) (po_some pe_int) po_none) (pe_tup pa_nil)))), fun c hc => ?_⟩
  obtain ⟨rfl, rfl, hn, hm⟩ := hc
  refine end_ret ?_
  have v0 : EvS c (S0 1 [.d (.tuple (.str x :: rest))]) (tVar 0) (.d (.tuple (.str x :: rest))) (S0 1 [.d (.tuple (.str x :: rest))]) := ev_var (by rw [hn]; decide) rfl
  have v1 : EvS c (S0 1 [.d (.tuple (.str x :: rest))]) (tOp (rIx c.K) (tVar 0) (tC (.int 0))) (.d (.str x)) (S0 1 [.d (.tuple (.str x :: rest))]) := ev_op v0 ev_int (rv_it 0 rfl)
  unfold innerD
  by_cases hb : x = "both"
  · rw [if_pos hb]
    refine ev_ifT (eb_test (ev_is (ev_op v1 ev_str rv_eqS) (by rw [decide_eq_true hb]))) (ev_is (ev_slT v0 (ep_some ev_int) ep_none) ?_)
    rw [show (1 : Int) = ((1 : Nat) : Int) from rfl, cutD_from]
    rfl
  · rw [if_neg hb]
    refine ev_ifF (eb_test (ev_is (ev_op v1 ev_str rv_eqS) (by rw [decide_eq_false hb]))) ?_
    by_cases ht : x = "tied"
    · rw [if_pos ht]
      refine ev_ifT (eb_test (ev_is (ev_op v1 ev_str rv_eqS) (by rw [decide_eq_true ht]))) (ev_is (ev_slT v0 (ep_some ev_int) ep_none) ?_)
      rw [show (2 : Int) = ((2 : Nat) : Int) from rfl, cutD_from]
      rfl
    · rw [if_neg ht]
      refine ev_ifF (eb_test (ev_is (ev_op v1 ev_str rv_eqS) (by rw [decide_eq_false ht]))) (ev_tup (ds := []) ea_nil (by decide))
theorem ok_lt {f : Addr} {fd : FuncData} (Df_ : Df K mg "_law_text" sLT ["shape"] f fd) (M : MT P w K mg base C) (h_inner_of : Cal P w K mg base "_law_inner" 2 ["shape"] (spF K C mInner)) : ∀ n, FnOk P w K mg base (L2.CX P w) (n + 3) f fd ["shape"] (spF K C (mTB n))
  | 0 => by
    refine fn_ok Df_.F scLT (fun xs r ⟨s, h, _⟩ => by rw [h]; rfl) fun cdv A outer s H E hr xs r ⟨sh, h1, hd, h3⟩ => ?_
    cases sh <;> exact absurd hd (by simp [Sh.depth])
  | n + 1 => by
    have h_text_by := Df_.cal (ok_lt Df_ M h_inner_of n)
    have h_inner_of := h_inner_of.mono (show 2 ≤ n + 3 by omega)
    refine fn_ok Df_.F scLT (fun xs r ⟨s, h, _⟩ => by rw [h]; rfl) fun cdv A outer s H E hr xs r ⟨sh, h1, hd, hl, h3⟩ => ?_
    subst h1 h3
    have hr1 : Room (n + 3) _ := hr
    refine ⟨_, (pss_cons (ps_if (pt_cmpR op_in_seq (pe_ix ix_seq (pv 0) pe_int (fun _ _ => rfl)) (pe_lst (pa_cons pe_str (pa_cons pe_str (pa_cons pe_str pa_nil)))) rfl) (pss_one (ps_ret (pe_ix ix_seq (pv 0) (pe_un un_neg pe_int) (fun _ _ => rfl)))) pss_nil)
      (pss_cons (ps_set (i := 1) scLT.nd rfl (.inl rfl) (pe_ifExp (pt_cmpR op_eq (pe_ix ix_seq (pv 0) pe_int (fun _ _ => rfl)) pe_str (nomark _)) (pe_lst (pa_cons (pe_ix ix_seq (pv 0) pe_int (fun _ _ => rfl)) pa_nil)) (pe_lst pa_nil)))
      (pss_one (ps_ret (pe_op op_addStr (pe_op op_addStr (pe_op op_addStr (pe_ix ix_seq (pv 0) pe_int (fun _ _ => rfl)) pe_str) (pe_bm PySem.F.plainAttrs_str PySem.F.slot_str_join PySem.F.type_str_join mt_joinT pe_str (pa_cons (pe_op op_cat (pv 1) (pe_lc (own := [("one", 2)]) (g := gName 2) (tt := tYes) rfl scLT.nd (pi_tup (pe_cal h_inner_of hr1 pxE (pa_cons (pv 0) pa_nil))) (blkOk_by (N := ["shape", "first", "one"]) (sc := defScope sLT) (by decide +kernel)) (fun _ _ _ _ _ => pg_name (i := 2) scLT.nd rfl (.inl rfl)) (fun _ _ _ _ _ => pts_nil) (fun _ _ _ _ _ => (pe_cal h_text_by hr1 passL (pa_cons (pv 2) pa_nil))))) pa_nil))) pe_str))))), fun c hc => ?_⟩
    obtain ⟨rfl, rfl, hn, hm⟩ := hc
    refine end_run (fun _ => True) ?_
    have n0 : 0 < c.n := by rw [hn]; exact (by decide : 0 < 3)
    have n1 : 1 < c.n := by rw [hn]; exact (by decide : 1 < 3)
    have n2 : 2 < c.n := by rw [hn]; exact (by decide : 2 < 3)
    have v0 : EvS c (S0 3 [.d sh.dat]) (tVar 0) (.d sh.dat) (S0 3 [.d sh.dat]) := ev_var n0 rfl
    have x0 : ∀ {S : Stt} {h : Str} {r : List PyData}, S.G[0]? = some (some (.x (.d (.tuple (.str h :: r))))) → EvS c S (tOp (rIx c.K) (tVar 0) (tC (.int 0))) (.d (.str h)) S := fun e => ev_op (ev_var n0 e) ev_int (rv_it 0 rfl)
    have x1 : ∀ {S : Stt} {h : PyData} {d : PyData} {r : List PyData}, S.G[0]? = some (some (.x (.d (.tuple (h :: d :: r))))) → EvS c S (tOp (rIx c.K) (tVar 0) (tC (.int 1))) (.d d) S := fun e => ev_op (ev_var n0 e) ev_int (rv_it 1 rfl)
    have t1 : ∀ {S : Stt} {h : Str} {r : List PyData}, S.G[0]? = some (some (.x (.d (.tuple (.str h :: r))))) → EvB c S (tTest (tOp (rIn c.K false) (tOp (rIx c.K) (tVar 0) (tC (.int 0))) (tLst (tCons (tC (.str "any")) (tCons (tC (.str "none")) (tCons (tC (.str "kind")) tNil)))))) (decide (h ∈ (["any", "none", "kind"] : List Str))) S := fun e =>
      eb_test (ev_op (x0 e) (ev_lst (ds := (["any", "none", "kind"] : List Str).map .str) (ea_cons ev_str (ea_cons ev_str (ea_cons ev_str ea_nil))) (by decide)) rv_inL)
    have t2 : ∀ {S : Stt} {h a : Str} {r : List PyData}, S.G[0]? = some (some (.x (.d (.tuple (.str h :: r))))) → EvB c S (tTest (tOp rEq (tOp (rIx c.K) (tVar 0) (tC (.int 0))) (tC (.str a)))) (decide (h = a)) S := fun e => eb_test (ev_op (x0 e) ev_str rv_eqS)
    have xl1 : ∀ {S : Stt} {h : Str}, S.G[0]? = some (some (.x (.d (.tuple [.str h])))) → EvS c S (tOp (rIx c.K) (tVar 0) (tUn (rU fun i => .int (-i)) (tC (.int 1)))) (.d (.str h)) S := fun e => ev_op (ev_var n0 e) (ev_neg ev_int) (rv_ixT (k := 0) (show ixN 1 (-1) = some 0 by decide +kernel) rfl)
    cases sh with
    | any => exact run_stop (run_ifT (eb_is (t1 rfl) (by decide +kernel)) (run_ret (xl1 rfl))) rfl
    | none => exact run_stop (run_ifT (eb_is (t1 rfl) (by decide +kernel)) (run_ret (xl1 rfl))) rfl
    | kind k => exact run_stop (run_ifT (eb_is (t1 rfl) (by decide +kernel)) (run_ret (ev_op (ev_var (x := .d (.tuple [.str "kind", .str k])) n0 rfl) (ev_neg (ev_int (i := 1))) (rv_ixT (k := 1) (show ixN 2 (-1) = some 1 by decide +kernel) rfl)))) rfl
    | both a b =>
      have hd' : max a.depth b.depth + 1 ≤ n + 1 := hd
      have ha : a.depth ≤ n := by omega
      have hb : b.depth ≤ n := by omega
      have hz : (Sh.both a b).txt.length = 8 + a.txt.length + b.txt.length := by
        show ((("both" : Str) ++ ("(" : Str) ++ (a.txt ++ (", " : Str) ++ b.txt)) ++ (")" : Str)).length = _
        simp only [len_app]
        rw [show ("both" : Str).length = 4 from by decide +kernel, show ("(" : Str).length = 1 from by decide +kernel, show (", " : Str).length = 2 from by decide +kernel, show (")" : Str).length = 1 from by decide +kernel]
        omega
      have f1 : ("both" : Str).length = 4 := by decide +kernel
      have f2 : ("(" : Str).length = 1 := by decide +kernel
      have f3 : (", " : Str).length = 2 := by decide +kernel
      have f4 : (")" : Str).length = 1 := by decide +kernel
      have sz : (100000 : Nat) ≤ sizeLine := by decide
      refine run_seq (run_ifF (eb_is (t1 rfl) (by decide +kernel)) run_next) ?_
      refine run_seq (S1 := ⟨fun _ => True, [some (.x (.d (Sh.both a b).dat)), some (.x (.d (.list []))), none]⟩) (run_set (ev_ifF (eb_is (t2 rfl) (by decide +kernel)) (ev_lst (ds := []) ea_nil (Nat.zero_le _)))) ?_
      refine run_ret (ev_op (ev_op (ev_op (x0 rfl) ev_str (rv_addS (by rw [f1, f2]; decide))) (ev_join ev_str (ys := [a.txt, b.txt]) (ev_op (ev_var n1 rfl) (ev_lcMap (fun s : Sh => .d s.dat) (fun s => .str s.txt) [a, b] n2 rfl (ei_tup (ds := [a.dat, b.dat]) (ev_callF (m := mInner) (ea_cons (ev_var n0 rfl) ea_nil) ⟨"both", [a.dat, b.dat], rfl, rfl⟩)) (by simp) fun acc s hs => ?_) (rv_cat (by simp))) ?_) (rv_addS ?_)) ev_str (rv_addS ?_))
      · refine ev_callF (ea_cons (ev_var n2 rfl) ea_nil) ⟨s, rfl, ?_, ?_, rfl⟩
        · simp at hs
          rcases hs with rfl | rfl <;> assumption
        · simp at hs
          rcases hs with rfl | rfl <;> omega
      · simp
        omega
      · show (("both" : Str) ++ ("(" : Str)).length + (a.txt ++ (", " : Str) ++ b.txt).length ≤ _
        simp only [len_app]
        omega
      · show ((("both" : Str) ++ ("(" : Str)) ++ (a.txt ++ (", " : Str) ++ b.txt)).length + _ ≤ _
        simp only [len_app]
        omega
    | tied t a =>
      have hd' : a.depth + 1 ≤ n + 1 := hd
      have ha : a.depth ≤ n := by omega
      have f1 : ("tied" : Str).length = 4 := by decide +kernel
      have f2 : ("(" : Str).length = 1 := by decide +kernel
      have f3 : (", " : Str).length = 2 := by decide +kernel
      have f4 : (")" : Str).length = 1 := by decide +kernel
      have hz : (Sh.tied t a).txt.length = 8 + t.length + a.txt.length := by
        show ((("tied" : Str) ++ ("(" : Str) ++ (t ++ (", " : Str) ++ a.txt)) ++ (")" : Str)).length = _
        simp only [len_app]
        omega
      have sz : (100000 : Nat) ≤ sizeLine := by decide
      refine run_seq (run_ifF (eb_is (t1 rfl) (by decide +kernel)) run_next) ?_
      refine run_seq (S1 := ⟨fun _ => True, [some (.x (.d (Sh.tied t a).dat)), some (.x (.d (.list [.str t]))), none]⟩) (run_set (ev_ifT (eb_is (t2 rfl) (by decide +kernel)) (ev_lst (ds := [.str t]) (ea_cons (x1 rfl) ea_nil) (by simp)))) ?_
      refine run_ret (ev_op (ev_op (ev_op (x0 rfl) ev_str (rv_addS (by rw [f1, f2]; decide))) (ev_join ev_str (ys := [t, a.txt]) (ev_op (ev_var n1 rfl) (ev_lcMap (fun s : Sh => .d s.dat) (fun s => .str s.txt) [a] n2 rfl (ei_tup (ds := [a.dat]) (ev_callF (m := mInner) (ea_cons (ev_var n0 rfl) ea_nil) ⟨"tied", [.str t, a.dat], rfl, rfl⟩)) (by simp) fun acc s hs => ?_) (rv_cat (by simp))) ?_) (rv_addS ?_)) ev_str (rv_addS ?_))
      · refine ev_callF (ea_cons (ev_var n2 rfl) ea_nil) ⟨s, rfl, ?_, ?_, rfl⟩
        · simp at hs
          rcases hs with rfl
          assumption
        · simp at hs
          rcases hs with rfl
          omega
      · simp
        omega
      · show (("tied" : Str) ++ ("(" : Str)).length + (t ++ (", " : Str) ++ a.txt).length ≤ _
        simp only [len_app]
        omega
      · show ((("tied" : Str) ++ ("(" : Str)) ++ (t ++ (", " : Str) ++ a.txt)).length + _ ≤ _
        simp only [len_app]
        omega

def mWO (xs : List Dx) (r : Res) : Prop := ∃ ks ts, xs = [.d (.tuple [.tuple (ks.map .str), .tuple (ts.map .str)])] ∧ GoodW ks ts ∧ r = .ok (.w ks ts)
theorem ok_wo {f : Addr} {fd : FuncData} (F : Fun K "_law_words_of" "_law_words_of" sWO f fd) (M : MT P w K mg base C) (W : MkW P w K mg base C) : FnOk P w K mg base (L2.CX P w) 6 f fd ["told"] (spF K C mWO) := by
  refine fn_ok F scWO (fun xs r ⟨_, _, h, _⟩ => by rw [h]; rfl) fun cdv A outer s H E hr xs r ⟨ks, ts, h1, hg, h3⟩ => ?_
  subst h1 h3
  obtain ⟨fi, fdi, MK, FI, BI⟩ := W.ex
  have hr1 : Room 5 _ := hr
  refine ⟨_, (pss_one (ps_ret (pe_make MK FI (hr1.mono (by decide)) (by rfl) M.W.gC BI .nil pxE (pa_cons (pe_callTy call_lstOf (by rfl) (M.B "list" (by decide)) (by decide +kernel) (pa_cons (pe_ix ix_seq (pv 0) pe_int (fun _ _ => rfl)) pa_nil)) (pa_cons (pe_callTy call_lstOf (by rfl) (M.B "list" (by decide)) (by decide +kernel) (pa_cons (pe_ix ix_seq (pv 0) pe_int (fun _ _ => rfl)) pa_nil)) pa_nil))))), fun c hc => ?_⟩
  obtain ⟨rfl, rfl, hn, hm⟩ := hc
  have n0 : 0 < c.n := by rw [hn]; exact Nat.one_pos
  exact end_ret (ev_mkW (ea_cons (ev_lstT (ev_op (ev_var n0 rfl) ev_int (rv_it 0 rfl))) (ea_cons (ev_lstT (ev_op (ev_var n0 rfl) ev_int (rv_it 1 rfl))) ea_nil)) hg)
end
end K2

/-! K2n -/
set_option Elab.async false
set_option linter.all false
set_option autoImplicit false
set_option maxRecDepth 100000
set_option maxHeartbeats 4000000
namespace K2
open PySem PySem.Spec PyProof.Rows L2 Tk
/-! ### the law's split -/
def bal (l : List Nat) : Int := (l.count 40 : Int) - (l.count 41 : Int)
def cutAt (l : List Nat) (i : Nat) : Bool := decide (bal (l.take (i + 1)) = 0) && decide (sl l i (i + 2) = ", ")
def cuts (l : List Nat) (j : Nat) : List Nat := (List.range j).filter (cutAt l)
def partsAt (l : List Nat) (i : Nat) : List PyData := [.str (sl l 0 i), .str (sl l (i + 2) l.length)]
def splitD (l : List Nat) : List PyData := match cuts l l.length with
  | [i] => partsAt l i
  | _ => []
theorem cuts_succ (l : List Nat) (j : Nat) : cuts l (j + 1) = cuts l j ++ (if cutAt l j then [j] else []) := by
  unfold cuts
  rw [List.range_succ, List.filter_append]
  congr 1
  cases h : cutAt l j <;> simp [h]
theorem cut_pre (s : Str) (j : Nat) : cutS s none (some (j : Int)) = sl (cl s) 0 j := by
  have h := cut_sl s 0 j
  rw [← h]
  unfold cutS
  rw [sIx_some, sIx_some, HT.sIx_none]
  simp
theorem cut_suf (s : Str) (i : Nat) : cutS s (some (i : Int)) none = sl (cl s) i s.length := by
  have h := cut_sl s i s.length
  rw [← h]
  unfold cutS
  rw [sIx_some, HT.sIx_none, sIx_some, Nat.min_self]
theorem bal_take {l : List Nat} {j k : Nat} (h : l[j]? = some k) : bal (l.take (j + 1)) = bal (l.take j) + (if k = 40 then 1 else 0) - (if k = 41 then 1 else 0) := by
  have e : l.take (j + 1) = l.take j ++ [k] := by rw [List.take_succ, h]; rfl
  unfold bal
  rw [e, List.count_append, List.count_append, List.count_singleton, List.count_singleton]
  by_cases h1 : k = 40
  · subst h1
    simp
    omega
  · by_cases h2 : k = 41
    · subst h2
      simp
      omega
    · have h1' : ¬ (40 = k) := fun z => h1 z.symm
      have h2' : ¬ (41 = k) := fun z => h2 z.symm
      simp [h1, h2, h1', h2']
theorem one_sign {k n : Nat} : ((⟨#[k]⟩ : Str) = ⟨#[n]⟩) ↔ k = n := by
  constructor
  · intro h
    injection h with h
    simpa using h
  · rintro rfl
    rfl
def spS (tx : Str) (dp : Int) (fnd : List PyData) (e3 e4 : Option En) : Stt := ⟨fun _ => True, [some (.x (.d (.str tx))), some (.x (.d (.int dp))), some (.own fnd), e3, e4]⟩
section
variable {P : Program} {w : World} {K : PySem.W.Frag} {mg : Str → Option Value} {base : Heap} {C : Addr}

def mLS (xs : List Dx) (r : Res) : Prop := ∃ s : Str, xs = [.d (.str s)] ∧ s.length ≤ 90000 ∧ r = .ok (.d (.list (splitD (cl s))))
theorem ok_ls {f : Addr} {fd : FuncData} (F : Fun K "_law_split" "_law_split" sLS f fd) (M : MT P w K mg base C) : FnOk P w K mg base (L2.CX P w) 2 f fd ["text"] (spF K C mLS) := by
  refine fn_ok F scLS (fun xs r ⟨_, h, _⟩ => by rw [h]; rfl) fun cdv A outer s H E hr xs r ⟨tx, h1, hl, h3⟩ => ?_
  subst h1 h3
  have hr1 : Room 1 _ := hr
  refine ⟨_, (pss_cons (ps_par (i := 1) (j := 2) rfl scLS.nd rfl rfl (by decide) rfl rfl (pa_cons pe_int (pa_cons (pe_lst pa_nil) pa_nil)) rfl)
      (pss_cons (ps_for pown rfl (pi_etxt (by rfl) (M.B "enumerate" (by decide)) (pa_cons (pv 0) pa_nil)) (pg_tup (n := 2) rfl (pgs_cons (pg_name (i := 3) scLS.nd rfl (.inl rfl)) (pgs_cons (pg_name (i := 4) scLS.nd rfl (.inl rfl)) pgs_nil))) (pss_cons (ps_set (i := 1) scLS.nd rfl (.inl rfl) (pe_op op_sub (pe_op op_add (pv 1) (pe_callTy call_intOf (by rfl) (M.B "int" (by decide)) (by decide +kernel) (pa_cons (pe_cmpR op_eq (pv 4) pe_str (nomark _)) pa_nil))) (pe_callTy call_intOf (by rfl) (M.B "int" (by decide)) (by decide +kernel) (pa_cons (pe_cmpR op_eq (pv 4) pe_str (nomark _)) pa_nil))))
      (pss_one (ps_if (PW.pt (pw_and (pt_cmpR op_eq (pv 1) pe_int (nomark _)) (pw_and1 (pt_cmpR op_eq (pe_slice sl_str (pv 0) (po_some (pv 3)) (po_some (pe_op op_add (pv 3) pe_int))) pe_str (nomark _))))) (pss_one (ps_expr (pe_bm PySem.F.plainAttrs_list PySem.F.slot_list_append PySem.F.type_list_append mt_append (pv 2) (pa_cons (pe_lst (pa_cons (pe_slice sl_str (pv 0) po_none (po_some (pv 3))) (pa_cons (pe_slice sl_str (pv 0) (po_some (pe_op op_add (pv 3) pe_int)) po_none) pa_nil))) pa_nil)))) pss_nil))))
      (pss_one (ps_ret (pe_ifExp (pt_cmpR op_eq (pe_callB call_lenSq (by rfl) (M.B "len" (by decide)) boot_len (pa_cons (pv 2) pa_nil)) pe_int (nomark _)) (pe_ix ix_seq (pv 2) pe_int (fun _ _ => rfl)) (pe_lst pa_nil)))))), fun c hc => ?_⟩
  obtain ⟨rfl, rfl, hn, hm⟩ := hc
  refine end_run (fun _ => True) ?_
  have n0 : 0 < c.n := by rw [hn]; exact (by decide : 0 < 5)
  have n1 : 1 < c.n := by rw [hn]; exact (by decide : 1 < 5)
  have n2 : 2 < c.n := by rw [hn]; exact (by decide : 2 < 5)
  have n3 : 3 < c.n := by rw [hn]; exact (by decide : 3 < 5)
  have n4 : 4 < c.n := by rw [hn]; exact (by decide : 4 < 5)
  have sz : tx.length ≤ sizeLine := Nat.le_trans hl (by decide)
  have hcl := cl_len tx
  refine run_seq (S1 := spS tx 0 [] none none) (run_parVO ev_int (eo_lst (ds := []) ea_nil (Nat.zero_le _)) n2 (by decide)) ?_
  refine run_forQ (fun r S => ∃ j e3 e4, r = ((pairs tx).map Dx.d).drop j ∧ j ≤ tx.length ∧ S = spS tx (bal ((cl tx).take j)) ((cuts (cl tx) j).map fun i => .list (partsAt (cl tx) i)) e3 e4)
    (fun S => ∃ dp e3 e4, S = spS tx dp ((cuts (cl tx) (cl tx).length).map fun i => .list (partsAt (cl tx) i)) e3 e4) (ei_etxt (ea_cons (ev_var n0 rfl) ea_nil)) ⟨0, none, none, rfl, Nat.zero_le _, rfl⟩ ?_ ?_ ?_
  · rintro x r S ⟨j, e3, e4, hr, hj, rfl⟩
    have hlen : ((pairs tx).map Dx.d).length = tx.length := by unfold pairs; simp
    have hjl : j < tx.length := by
      have := congrArg List.length hr
      rw [List.length_drop, hlen, List.length_cons] at this
      omega
    obtain ⟨k, hk⟩ : ∃ k, (cl tx)[j]? = some k := ⟨_, List.getElem?_eq_getElem (by rw [hcl]; exact hjl)⟩
    rw [List.drop_eq_getElem_cons (by rw [hlen]; exact hjl)] at hr
    injection hr with hx hr
    have hx' : x = .d (.tuple [.int (j : Int), .str ⟨#[k]⟩]) := by
      rw [hx]
      unfold pairs
      simp only [List.getElem_map, List.getElem_range]
      rw [List.getD_eq_getElem?_getD, show tx.cps.toList[j]? = some k from hk]
      rfl
    subst hx'
    have a1 : AsgS c (spS tx (bal ((cl tx).take j)) ((cuts (cl tx) j).map fun i => .list (partsAt (cl tx) i)) e3 e4) (gTup c.K 2 (gCons (gName 3) (gCons (gName 4) gNil))) (.d (.tuple [.int (j : Int), .str ⟨#[k]⟩])) (spS tx (bal ((cl tx).take j)) ((cuts (cl tx) j).map fun i => .list (partsAt (cl tx) i)) (some (.x (.d (.int (j : Int))))) (some (.x (.d (.str ⟨#[k]⟩))))) := asg_pair
    have sg : ∀ (n : Nat) (z : Str), z = ⟨#[n]⟩ → EvS c (spS tx (bal ((cl tx).take j)) ((cuts (cl tx) j).map fun i => .list (partsAt (cl tx) i)) (some (.x (.d (.int (j : Int))))) (some (.x (.d (.str ⟨#[k]⟩))))) (tCB rInt1 (tCons (tOp rEq (tVar 4) (tC (.str z))) tNil)) (.d (.int (if k = n then 1 else 0))) (spS tx (bal ((cl tx).take j)) ((cuts (cl tx) j).map fun i => .list (partsAt (cl tx) i)) (some (.x (.d (.int (j : Int))))) (some (.x (.d (.str ⟨#[k]⟩))))) := fun n z hz => by
      subst hz
      refine ev_is (ev_intB (ev_op (ev_var n4 rfl) ev_str rv_eqS)) ?_
      by_cases h : k = n
      · subst h
        simp
      · rw [decide_eq_false (fun q => h (one_sign.mp q)), if_neg h]
        rfl
    have a2 : RunS c (spS tx (bal ((cl tx).take j)) ((cuts (cl tx) j).map fun i => .list (partsAt (cl tx) i)) (some (.x (.d (.int (j : Int))))) (some (.x (.d (.str ⟨#[k]⟩))))) (tAsg (tOp (rI0 fun i j => .int (i - j)) (tOp (rI0 fun i j => .int (i + j)) (tVar 1) (tCB rInt1 (tCons (tOp rEq (tVar 4) (tC (.str "("))) tNil))) (tCB rInt1 (tCons (tOp rEq (tVar 4) (tC (.str ")"))) tNil))) (gName 1)) (.nx (spS tx (bal ((cl tx).take (j + 1))) ((cuts (cl tx) j).map fun i => .list (partsAt (cl tx) i)) (some (.x (.d (.int (j : Int))))) (some (.x (.d (.str ⟨#[k]⟩)))))) := by
      rw [bal_take hk]
      exact run_set (i := 1) (ev_op (ev_op (ev_var n1 rfl) (sg 40 "(" (by decide +kernel)) rv_int) (sg 41 ")" (by decide +kernel)) (rv_int (g := fun i j => i - j)))
    have t1 : EvB c (spS tx (bal ((cl tx).take (j + 1))) ((cuts (cl tx) j).map fun i => .list (partsAt (cl tx) i)) (some (.x (.d (.int (j : Int))))) (some (.x (.d (.str ⟨#[k]⟩))))) (tTest (tOp rEq (tVar 1) (tC (.int 0)))) (decide (bal ((cl tx).take (j + 1)) = 0)) (spS tx (bal ((cl tx).take (j + 1))) ((cuts (cl tx) j).map fun i => .list (partsAt (cl tx) i)) (some (.x (.d (.int (j : Int))))) (some (.x (.d (.str ⟨#[k]⟩))))) :=
      eb_test (ev_op (ev_var n1 rfl) ev_int rv_eqI)
    have t2 : EvB c (spS tx (bal ((cl tx).take (j + 1))) ((cuts (cl tx) j).map fun i => .list (partsAt (cl tx) i)) (some (.x (.d (.int (j : Int))))) (some (.x (.d (.str ⟨#[k]⟩))))) (tTest (tOp rEq (tSl rSlS (tVar 0) (tPart (tVar 3)) (tPart (tOp (rI0 fun i j => .int (i + j)) (tVar 3) (tC (.int 2))))) (tC (.str ", ")))) (decide (sl (cl tx) j (j + 2) = ", ")) (spS tx (bal ((cl tx).take (j + 1))) ((cuts (cl tx) j).map fun i => .list (partsAt (cl tx) i)) (some (.x (.d (.int (j : Int))))) (some (.x (.d (.str ⟨#[k]⟩))))) :=
      eb_test (ev_op (ev_is (ev_slS (ev_var n0 rfl) (ep_some (ev_var n3 rfl)) (ep_some (ev_op (ev_var n3 rfl) ev_int rv_int)) sz) (by rw [nat2, cut_sl])) ev_str rv_eqS)
    have eI : ∃ j' e3' e4', r = ((pairs tx).map Dx.d).drop j' ∧ j' ≤ tx.length ∧ spS tx (bal ((cl tx).take (j + 1))) ((cuts (cl tx) (j + 1)).map fun i => .list (partsAt (cl tx) i)) (some (.x (.d (.int (j : Int))))) (some (.x (.d (.str ⟨#[k]⟩)))) = spS tx (bal ((cl tx).take j')) ((cuts (cl tx) j').map fun i => .list (partsAt (cl tx) i)) e3' e4' := ⟨j + 1, _, _, hr, by omega, rfl⟩
    cases hcut : cutAt (cl tx) j with
    | false =>
      have ec : cuts (cl tx) (j + 1) = cuts (cl tx) j := by rw [cuts_succ, hcut]; simp
      refine .step a1 (run_seq a2 (run_ifF ?_ run_next)) (by rw [ec] at eI; exact eI)
      unfold cutAt at hcut
      cases hb : decide (bal ((cl tx).take (j + 1)) = 0) with
      | false => exact eb_and0 (eb_is t1 hb)
      | true =>
        rw [hb, Bool.true_and] at hcut
        exact eb_and1 (eb_is t1 hb) (eb_is t2 hcut)
    | true =>
      have ec : cuts (cl tx) (j + 1) = cuts (cl tx) j ++ [j] := by rw [cuts_succ, hcut]; rfl
      rw [ec, List.map_append] at eI
      have hcut' := hcut
      unfold cutAt at hcut'
      rw [Bool.and_eq_true] at hcut'
      have ap := ev_app (c := c) (S := spS tx (bal ((cl tx).take (j + 1))) ((cuts (cl tx) j).map fun i => .list (partsAt (cl tx) i)) (some (.x (.d (.int (j : Int))))) (some (.x (.d (.str ⟨#[k]⟩))))) (i := 2) n2 rfl
        (ev_lst (ds := partsAt (cl tx) j) (ea_cons (ev_is (ev_slS (ev_var n0 rfl) ep_none (ep_some (ev_var n3 rfl)) sz) (by rw [cut_pre])) (ea_cons (ev_is (ev_slS (ev_var n0 rfl) (ep_some (ev_op (ev_var n3 rfl) (ev_int (i := 2)) (rv_int (g := fun i j => i + j)))) ep_none sz) (by rw [nat2, cut_suf, ← hcl])) ea_nil)) (by show 2 ≤ 1000; decide)) rfl (by
          rw [List.length_map]
          have : (cuts (cl tx) j).length ≤ j := by
            unfold cuts
            exact Nat.le_trans (List.length_filter_le _ _) (by rw [List.length_range]; exact Nat.le_refl _)
          omega)
      exact .step a1 (run_seq a2 (run_ifT (eb_and1 (eb_is t1 hcut'.1) (eb_is t2 hcut'.2)) (run_drop ap))) eI
  · rintro S ⟨j, e3, e4, hr, hj, rfl⟩
    have hlen : ((pairs tx).map Dx.d).length = tx.length := by unfold pairs; simp
    have : j = (cl tx).length := by
      have := congrArg List.length hr
      rw [List.length_drop, hlen, List.length_nil] at this
      omega
    subst this
    exact ⟨_, e3, e4, rfl⟩
  · rintro S ⟨dp, e3, e4, rfl⟩
    have t := eb_test (ev_op (ev_lenO (c := c) (S := spS tx dp ((cuts (cl tx) (cl tx).length).map fun i => .list (partsAt (cl tx) i)) e3 e4) n2 rfl) (ev_int (i := 1)) rv_eqI)
    unfold splitD
    cases hc : cuts (cl tx) (cl tx).length with
    | nil =>
      rw [hc] at t
      exact run_ret (ev_ifF t (ev_lst (ds := []) ea_nil (Nat.zero_le _)))
    | cons i r =>
      rw [hc] at t
      cases r with
      | nil => exact run_ret (ev_ifT t (ev_ixO (k := 0) n2 rfl rfl ev_int rfl))
      | cons i2 r2 => exact run_ret (ev_ifF (eb_is t (decide_eq_false (by simp; omega))) (ev_lst (ds := []) ea_nil (Nat.zero_le _)))
end
end K2

/-! K2o -/
set_option Elab.async false
set_option linter.all false
set_option autoImplicit false
set_option maxRecDepth 100000
set_option maxHeartbeats 4000000
namespace K2
open PySem PySem.Spec PyProof.Rows L2 Tk
/-! ### the law's reader -/
def comb (x : Str) (a b : PyData) : PyData := if isNon a = true ∨ isNon b = true then .none else .tuple [.str x, a, b]
def lStep (ks ts : List Str) (rec : Str → PyData) (s : Str) : PyData :=
  if s ∈ (["any", "none"] : List Str) ∨ s ∈ ks then (if s ∈ ks then .tuple [.str "kind", .str s] else .tuple [.str s])
  else if sl (cl s) 0 5 ∉ (["both(", "tied("] : List Str) ∨ sl (cl s) (s.length - 1) s.length ≠ ")" then .none
  else match cuts (cl (sl (cl s) 5 (s.length - 1))) (cl (sl (cl s) 5 (s.length - 1))).length with
    | [i] => comb (sl (cl s) 0 4) (if sl (cl s) 0 4 = "both" then rec (sl (cl (sl (cl s) 5 (s.length - 1))) 0 i) else if sl (cl (sl (cl s) 5 (s.length - 1))) 0 i ∈ ts then .str (sl (cl (sl (cl s) 5 (s.length - 1))) 0 i) else .none)
        (rec (sl (cl (sl (cl s) 5 (s.length - 1))) (i + 2) (cl (sl (cl s) 5 (s.length - 1))).length))
    | _ => .none
def lRead (ks ts : List Str) : Nat → Str → PyData
  | 0 => lStep ks ts fun _ => .none
  | n + 1 => lStep ks ts (lRead ks ts n)
def recF (ks ts : List Str) : Nat → Str → PyData
  | 0 => fun _ => .none
  | n + 1 => lRead ks ts n
theorem lRead_eq (ks ts : List Str) (n : Nat) (s : Str) : lRead ks ts n s = lStep ks ts (recF ks ts n) s := by cases n <;> rfl
theorem cut_neg (s : Str) : cutS s (some (-1)) none = sl (cl s) (s.length - 1) s.length := by
  unfold cutS sl
  rw [HT.sIx_none]
  have e : HT.sIx s.length 0 (some (-1)) = s.length - 1 := by
    show (if (-1 : Int) < 0 then ((-1 : Int) + (s.length : Int)).toNat else min (-1 : Int).toNat s.length) = _
    rw [if_pos (by decide)]
    omega
  rw [e]
theorem cut_mid (s : Str) : cutS s (some 5) (some (-1)) = sl (cl s) 5 (s.length - 1) := by
  unfold cutS sl
  have e : HT.sIx s.length s.length (some (-1)) = s.length - 1 := by
    show (if (-1 : Int) < 0 then ((-1 : Int) + (s.length : Int)).toNat else min (-1 : Int).toNat s.length) = _
    rw [if_pos (by decide)]
    omega
  have e2 : HT.sIx s.length 0 (some 5) = min 5 s.length := sIx_some s.length 0 5
  rw [e, e2]
  congr 1
  congr 1
  have hl : s.cps.toList.length = s.length := Array.length_toList
  have hl2 := cl_len s
  by_cases h : 5 ≤ s.length
  · rw [Nat.min_eq_left h]
  · rw [Nat.min_eq_right (by omega), List.drop_eq_nil_of_le (by omega), List.drop_eq_nil_of_le (by omega)]
    simp
theorem sl_count (l : List Nat) (i j c : Nat) : (cl (sl l i j)).count c ≤ l.count c := by
  rw [cl_sl]
  exact ((List.take_sublist _ _).trans (List.drop_sublist _ _)).count_le c
theorem sl_len (l : List Nat) (i j : Nat) : (sl l i j).length ≤ l.length := by
  rw [← cl_len, cl_sl]
  exact ((List.take_sublist _ _).trans (List.drop_sublist _ _)).length_le
theorem mid_count {s : Str} (h : sl (cl s) 0 5 ∈ (["both(", "tied("] : List Str)) : (cl (sl (cl s) 5 (s.length - 1))).count 40 + 1 ≤ (cl s).count 40 := by
  have e : cl s = cl (sl (cl s) 0 5) ++ (cl s).drop 5 := by
    have := drop_sl (l := cl s) (Nat.zero_le 5)
    rw [List.drop_zero] at this
    exact this
  have h1 : (cl (sl (cl s) 0 5)).count 40 = 1 := by
    rcases List.mem_cons.mp h with h | h
    · rw [h]
      decide +kernel
    · rw [List.mem_singleton.mp h]
      decide +kernel
  have h2 : (cl (sl (cl s) 5 (s.length - 1))).count 40 ≤ ((cl s).drop 5).count 40 := by
    rw [cl_sl]
    exact (List.take_sublist _ _).count_le 40
  have h3 := congrArg (List.count 40) e
  rw [List.count_append, h1] at h3
  omega
abbrev sLR : Stmt := topS 51
theorem scLR : FnScope ["told", "text", "parts", "one", "other"] ["told", "text"] (defScope sLR) := ⟨rfl, rfl, rfl, by decide +kernel, rfl, by decide +kernel, by decide +kernel⟩
section
variable {P : Program} {w : World} {K : PySem.W.Frag} {mg : Str → Option Value} {base : Heap} {C : Addr}

def toldD (ks ts : List Str) : PyData := .tuple [.tuple (ks.map .str), .tuple (ts.map .str)]
def mLR : Nat → List Dx → Res → Prop
  | 0, _, _ => False
  | n + 1, xs, r => ∃ (ks ts : List Str) (s : Str), xs = [.d (toldD ks ts), .d (.str s)] ∧ (cl s).count 40 ≤ n ∧ s.length ≤ 90000 ∧ r = .ok (.d (lRead ks ts n s))
theorem ok_lr {f : Addr} {fd : FuncData} (Df_ : Df K mg "_law_read" sLR ["told", "text"] f fd) (M : MT P w K mg base C) (h__law_split : Cal P w K mg base "_law_split" 2 ["text"] (spF K C mLS)) : ∀ n, FnOk P w K mg base (L2.CX P w) (n + 3) f fd ["told", "text"] (spF K C (mLR n))
  | 0 => fn_ok Df_.F scLR (fun _ _ h => h.elim) fun _ _ _ _ _ _ _ _ _ h => h.elim
  | n + 1 => by
    have h__law_read := Df_.cal (ok_lr Df_ M h__law_split n)
    have h__law_split := h__law_split.mono (show 2 ≤ n + 3 by omega)
    refine fn_ok Df_.F scLR (fun xs r ⟨_, _, _, h, _⟩ => by rw [h]; rfl) fun cdv A outer s H E hr xs r ⟨ks, ts, tx, h1, hct, hl, h3⟩ => ?_
    subst h1 h3
    have hr1 : Room (n + 3) _ := hr
    refine ⟨_, (pss_cons (ps_if (PW.pt (pw_or (pt_cmpR op_in_seq (pv 1) (pe_lst (pa_cons pe_str (pa_cons pe_str pa_nil))) rfl) (pw_or1 (pt_cmpR op_in_seq (pv 1) (pe_ix ix_seq (pv 0) pe_int (fun _ _ => rfl)) rfl)))) (pss_one (ps_ret (pe_ifExp (pt_cmpR op_in_seq (pv 1) (pe_ix ix_seq (pv 0) pe_int (fun _ _ => rfl)) rfl) (pe_tup (pa_cons pe_str (pa_cons (pv 1) pa_nil))) (pe_tup (pa_cons (pv 1) pa_nil))))) pss_nil)
      (pss_cons (ps_if (PW.pt (pw_or (pt_cmpR op_notIn_seq (pe_slice sl_str (pv 1) po_none (po_some pe_int)) (pe_lst (pa_cons pe_str (pa_cons pe_str pa_nil))) rfl) (pw_or1 (pt_cmpR op_ne (pe_slice sl_str (pv 1) (po_some (pe_un un_neg pe_int)) po_none) pe_str (nomark _))))) (pss_one (ps_ret pe_non)) pss_nil)
      (pss_cons (ps_set (i := 2) scLR.nd rfl (.inl rfl) (pe_cal h__law_split hr1 pxE (pa_cons (pe_slice sl_str (pv 1) (po_some pe_int) (po_some (pe_un un_neg pe_int))) pa_nil)))
      (pss_cons (ps_if (pt_cmpR op_ne (pe_callB call_lenSq (by rfl) (M.B "len" (by decide)) boot_len (pa_cons (pv 2) pa_nil)) pe_int (nomark _)) (pss_one (ps_ret pe_non)) pss_nil)
      (pss_cons (ps_set (i := 3) scLR.nd rfl (.inl rfl) (pe_ifExp (pt_cmpR op_eq (pe_slice sl_str (pv 1) po_none (po_some pe_int)) pe_str (nomark _)) (pe_cal h__law_read hr1 pxE (pa_cons (pv 0) (pa_cons (pe_ix ix_seq (pv 2) pe_int (fun _ _ => rfl)) pa_nil))) (pe_ifExp (pt_cmpR op_in_seq (pe_ix ix_seq (pv 2) pe_int (fun _ _ => rfl)) (pe_ix ix_seq (pv 0) pe_int (fun _ _ => rfl)) rfl) (pe_ix ix_seq (pv 2) pe_int (fun _ _ => rfl)) pe_non)))
      (pss_cons (ps_set (i := 4) scLR.nd rfl (.inl rfl) (pe_cal h__law_read hr1 pxE (pa_cons (pv 0) (pa_cons (pe_ix ix_seq (pv 2) pe_int (fun _ _ => rfl)) pa_nil))))
      (pss_one (ps_ret (pe_ifExp (PW.pt (pw_and (pt_cmpR op_notN1 (pv 3) pe_non (nomark _)) (pw_and1 (pt_cmpR op_notN1 (pv 4) pe_non (nomark _))))) (pe_tup (pa_cons (pe_slice sl_str (pv 1) po_none (po_some pe_int)) (pa_cons (pv 3) (pa_cons (pv 4) pa_nil)))) pe_non))))))))), fun c hc => ?_⟩
    obtain ⟨rfl, rfl, hn, hm⟩ := hc
    refine end_run (fun _ => True) ?_
    have n0 : 0 < c.n := by rw [hn]; exact (by decide : 0 < 5)
    have n1 : 1 < c.n := by rw [hn]; exact (by decide : 1 < 5)
    have n2 : 2 < c.n := by rw [hn]; exact (by decide : 2 < 5)
    have n3 : 3 < c.n := by rw [hn]; exact (by decide : 3 < 5)
    have n4 : 4 < c.n := by rw [hn]; exact (by decide : 4 < 5)
    have sz : tx.length ≤ sizeLine := Nat.le_trans hl (by decide)
    have td : ∀ {S : Stt} (i : Nat) {l : List Str}, S.G[0]? = some (some (.x (.d (toldD ks ts)))) → ([PyData.tuple (ks.map .str), PyData.tuple (ts.map .str)])[i]? = some (.tuple (l.map .str)) → EvS c S (tOp (rIx c.K) (tVar 0) (tC (.int (i : Int)))) (.d (.tuple (l.map .str))) S := fun i l e h => ev_op (ev_var n0 e) ev_int (rv_it i h)
    obtain ⟨S, hS⟩ : ∃ S, S = S0 5 [.d (toldD ks ts), .d (.str tx)] := ⟨_, rfl⟩
    show RunS c (S0 5 [.d (toldD ks ts), .d (.str tx)]) _ _
    rw [← hS]
    have hW : S.W = fun _ => True := by rw [hS]; rfl
    have rt : ∀ {te : TE} {x : Dx}, EvS c S te x S → RunS c S (tRet te) (.rt x fun _ => True) := fun h => by
      have := run_ret h
      rw [hW] at this
      exact this
    have v1 : EvS c S (tVar 1) (.d (.str tx)) S := ev_var n1 (by rw [hS]; rfl)
    have d0 : EvS c S (tOp (rIx c.K) (tVar 0) (tC (.int 0))) (.d (.tuple (ks.map .str))) S := td 0 (by rw [hS]; rfl) rfl
    have t1 : EvB c S (tTest (tOp (rIn c.K false) (tVar 1) (tLst (tCons (tC (.str "any")) (tCons (tC (.str "none")) tNil))))) (decide (tx ∈ (["any", "none"] : List Str))) S :=
      eb_test (ev_op v1 (ev_lst (ds := (["any", "none"] : List Str).map .str) (ea_cons ev_str (ea_cons ev_str ea_nil)) (by decide)) rv_inL)
    have t2 : EvB c S (tTest (tOp (rIn c.K false) (tVar 1) (tOp (rIx c.K) (tVar 0) (tC (.int 0))))) (decide (tx ∈ ks)) S := eb_test (ev_op v1 d0 rv_inT)
    rw [lRead_eq]
    unfold lStep
    by_cases h12 : tx ∈ (["any", "none"] : List Str) ∨ tx ∈ ks
    · rw [if_pos h12]
      refine run_stop (run_ifT ?_ (rt ?_)) rfl
      · by_cases h1 : tx ∈ (["any", "none"] : List Str)
        · exact eb_or1 (eb_is t1 (decide_eq_true h1))
        · exact eb_or0 (eb_is t1 (decide_eq_false h1)) (eb_is t2 (decide_eq_true (h12.resolve_left h1)))
      · by_cases h2 : tx ∈ ks
        · rw [if_pos h2]
          exact ev_ifT (eb_is t2 (decide_eq_true h2)) (ev_tup (ds := [.str "kind", .str tx]) (ea_cons ev_str (ea_cons v1 ea_nil)) (by simp))
        · rw [if_neg h2]
          exact ev_ifF (eb_is t2 (decide_eq_false h2)) (ev_tup (ds := [.str tx]) (ea_cons v1 ea_nil) (by simp))
    · rw [if_neg h12]
      refine run_seq (run_ifF (eb_or0 (eb_is t1 (decide_eq_false fun z => h12 (.inl z))) (eb_is t2 (decide_eq_false fun z => h12 (.inr z)))) run_next) ?_
      have pre : ∀ {S : Stt} (j : Nat), S.G[1]? = some (some (.x (.d (.str tx)))) → EvS c S (tSl rSlS (tVar 1) tNoPart (tPart (tC (.int (j : Int))))) (.d (.str (sl (cl tx) 0 j))) S := fun j e => ev_is (ev_slS (ev_var n1 e) ep_none (ep_some ev_int) sz) (by rw [cut_pre])
      have t3 : EvB c S (tTest (tOp (rIn c.K true) (tSl rSlS (tVar 1) tNoPart (tPart (tC (.int 5)))) (tLst (tCons (tC (.str "both(")) (tCons (tC (.str "tied(")) tNil))))) (!decide (sl (cl tx) 0 5 ∈ (["both(", "tied("] : List Str))) S :=
        eb_test (ev_op (pre 5 (by rw [hS]; rfl)) (ev_lst (ds := (["both(", "tied("] : List Str).map .str) (ea_cons ev_str (ea_cons ev_str ea_nil)) (by decide)) rv_inL)
      have t4 : EvB c S (tTest (tOp rNe (tSl rSlS (tVar 1) (tPart (tUn (rU fun i => .int (-i)) (tC (.int 1)))) tNoPart) (tC (.str ")")))) (!decide (sl (cl tx) (tx.length - 1) tx.length = ")")) S :=
        eb_test (ev_op (ev_is (ev_slS v1 (ep_some (ev_neg (ev_int (i := 1)))) ep_none sz) (by rw [cut_neg])) ev_str rv_neS)
      by_cases h34 : sl (cl tx) 0 5 ∉ (["both(", "tied("] : List Str) ∨ sl (cl tx) (tx.length - 1) tx.length ≠ ")"
      · rw [if_pos h34]
        refine run_stop (run_ifT ?_ (rt ev_non)) rfl
        by_cases h3 : sl (cl tx) 0 5 ∈ (["both(", "tied("] : List Str)
        · exact eb_or0 (eb_is t3 (by rw [decide_eq_true h3]; rfl)) (eb_is t4 (by rw [decide_eq_false (h34.resolve_left fun z => z h3)]; rfl))
        · exact eb_or1 (eb_is t3 (by rw [decide_eq_false h3]; rfl))
      · rw [if_neg h34]
        have h3 : sl (cl tx) 0 5 ∈ (["both(", "tied("] : List Str) := Classical.not_not.mp fun z => h34 (.inl z)
        have h4 : sl (cl tx) (tx.length - 1) tx.length = ")" := Classical.not_not.mp fun z => h34 (.inr z)
        refine run_seq (run_ifF (eb_or0 (eb_is t3 (by rw [decide_eq_true h3]; rfl)) (eb_is t4 (by rw [decide_eq_true h4]; rfl))) run_next) ?_
        have hmc := mid_count h3
        have hml : (sl (cl tx) 5 (tx.length - 1)).length ≤ 90000 := Nat.le_trans (sl_len _ _ _) (by rw [cl_len]; exact hl)
        have e5 : EvS c S (tSl rSlS (tVar 1) (tPart (tC (.int 5))) (tPart (tUn (rU fun i => .int (-i)) (tC (.int 1))))) (.d (.str (sl (cl tx) 5 (tx.length - 1)))) S := ev_is (ev_slS v1 (ep_some ev_int) (ep_some (ev_neg (ev_int (i := 1)))) sz) (by rw [cut_mid])
        generalize hmid : sl (cl tx) 5 (tx.length - 1) = mid at *
        have st2 : RunS c S (tAsg (tCall (spF c.K c.C mLS) [] E (tCons (tSl rSlS (tVar 1) (tPart (tC (.int 5))) (tPart (tUn (rU fun i => .int (-i)) (tC (.int 1))))) tNil)) (gName 2)) (.nx ⟨fun _ => True, [some (.x (.d (toldD ks ts))), some (.x (.d (.str tx))), some (.x (.d (.list (splitD (cl mid))))), none, none]⟩) := by
          have q := run_set (i := 2) (ev_callF (m := mLS) (E := E) (z := .d (.list (splitD (cl mid)))) (ea_cons e5 ea_nil) ⟨mid, rfl, hml, rfl⟩)
          rw [hS] at q ⊢
          exact q
        refine run_seq st2 ?_
        have tl : EvB c ⟨fun _ => True, [some (.x (.d (toldD ks ts))), some (.x (.d (.str tx))), some (.x (.d (.list (splitD (cl mid))))), none, none]⟩ (tTest (tOp rNe (tCB (rLenSq c.K) (tCons (tVar 2) tNil)) (tC (.int 2)))) (!decide (((splitD (cl mid)).length : Int) = 2)) _ := eb_test (ev_op (ev_lenL (ev_var n2 rfl)) (ev_int (i := 2)) rv_neI)
        have bad : (splitD (cl mid)).length = 0 → RunS c ⟨fun _ => True, [some (.x (.d (toldD ks ts))), some (.x (.d (.str tx))), some (.x (.d (.list (splitD (cl mid))))), none, none]⟩ (tIfS (tTest (tOp rNe (tCB (rLenSq c.K) (tCons (tVar 2) tNil)) (tC (.int 2)))) (tRet (tC .non)) tNext) (.rt (.d .none) fun _ => True) := fun h => run_ifT (eb_is tl (by rw [h]; rfl)) (run_ret ev_non)
        cases hc : cuts (cl mid) (cl mid).length with
        | nil => exact run_stop (bad (by unfold splitD; rw [hc]; rfl)) rfl
        | cons i r =>
          cases r with
          | cons i2 r2 => exact run_stop (bad (by unfold splitD; rw [hc]; rfl)) rfl
          | nil =>
            dsimp only
            have hsp : splitD (cl mid) = [.str (sl (cl mid) 0 i), .str (sl (cl mid) (i + 2) (cl mid).length)] := by
              unfold splitD
              rw [hc]
              rfl
            rw [hsp] at tl ⊢
            obtain ⟨n', rfl⟩ : ∃ n', n = n' + 1 := ⟨n - 1, by omega⟩
            have c0 := sl_count (cl mid) 0 i 40
            have c1 := sl_count (cl mid) (i + 2) (cl mid).length 40
            have l0 : (sl (cl mid) 0 i).length ≤ 90000 := Nat.le_trans (sl_len _ _ _) (by rw [cl_len]; exact hml)
            have l1 : (sl (cl mid) (i + 2) (cl mid).length).length ≤ 90000 := Nat.le_trans (sl_len _ _ _) (by rw [cl_len]; exact hml)
            generalize sl (cl mid) 0 i = p0 at *
            generalize sl (cl mid) (i + 2) (cl mid).length = p1 at *
            refine run_seq (run_ifF tl run_next) ?_
            have tb := eb_test (ev_op (pre (S := ⟨fun _ => True, [some (.x (.d (toldD ks ts))), some (.x (.d (.str tx))), some (.x (.d (.list [.str p0, .str p1]))), none, none]⟩) 4 rfl) (ev_str (s := "both")) rv_eqS)
            have q0 : ∀ {S : Stt}, S.G[2]? = some (some (.x (.d (.list [.str p0, .str p1])))) → EvS c S (tOp (rIx c.K) (tVar 2) (tC (.int 0))) (.d (.str p0)) S := fun e => ev_op (ev_var n2 e) ev_int (rv_il 0 rfl)
            have q1 : ∀ {S : Stt}, S.G[2]? = some (some (.x (.d (.list [.str p0, .str p1])))) → EvS c S (tOp (rIx c.K) (tVar 2) (tC (.int 1))) (.d (.str p1)) S := fun e => ev_op (ev_var n2 e) ev_int (rv_il 1 rfl)
            have cr : ∀ {S : Stt} {p : Str} {te : TE}, S.G[0]? = some (some (.x (.d (toldD ks ts)))) → EvS c S te (.d (.str p)) S → (cl p).count 40 ≤ n' → p.length ≤ 90000 → EvS c S (tCall (spF c.K c.C (mLR (n' + 1))) [] E (tCons (tVar 0) (tCons te tNil))) (.d (lRead ks ts n' p)) S := fun e h hcp hlp => ev_callF (ea_cons (ev_var n0 e) (ea_cons h ea_nil)) ⟨ks, ts, _, rfl, hcp, hlp, rfl⟩
            have hone : EvS c ⟨fun _ => True, [some (.x (.d (toldD ks ts))), some (.x (.d (.str tx))), some (.x (.d (.list [.str p0, .str p1]))), none, none]⟩ (tIf (tTest (tOp rEq (tSl rSlS (tVar 1) tNoPart (tPart (tC (.int 4)))) (tC (.str "both")))) (tCall (spF c.K c.C (mLR (n' + 1))) [] E (tCons (tVar 0) (tCons (tOp (rIx c.K) (tVar 2) (tC (.int 0))) tNil))) (tIf (tTest (tOp (rIn c.K false) (tOp (rIx c.K) (tVar 2) (tC (.int 0))) (tOp (rIx c.K) (tVar 0) (tC (.int 1))))) (tOp (rIx c.K) (tVar 2) (tC (.int 0))) (tC .non)))
                (.d (if sl (cl tx) 0 4 = "both" then lRead ks ts n' p0 else if p0 ∈ ts then .str p0 else .none)) ⟨fun _ => True, [some (.x (.d (toldD ks ts))), some (.x (.d (.str tx))), some (.x (.d (.list [.str p0, .str p1]))), none, none]⟩ := by
              by_cases hb : sl (cl tx) 0 4 = "both"
              · rw [if_pos hb]
                exact ev_ifT (eb_is tb (decide_eq_true hb)) (cr rfl (q0 rfl) (by omega) (by omega))
              · rw [if_neg hb]
                refine ev_ifF (eb_is tb (decide_eq_false hb)) ?_
                have ti := eb_test (ev_op (q0 (S := ⟨fun _ => True, [some (.x (.d (toldD ks ts))), some (.x (.d (.str tx))), some (.x (.d (.list [.str p0, .str p1]))), none, none]⟩) rfl) (td 1 (l := ts) rfl rfl) (rv_inT (neg := false)))
                by_cases hi : p0 ∈ ts
                · rw [if_pos hi]
                  exact ev_ifT (eb_is ti (decide_eq_true hi)) (q0 rfl)
                · rw [if_neg hi]
                  exact ev_ifF (eb_is ti (decide_eq_false hi)) ev_non
            show RunS c _ _ (.rt (.d (comb (sl (cl tx) 0 4) (if sl (cl tx) 0 4 = "both" then lRead ks ts n' p0 else if p0 ∈ ts then .str p0 else .none) (lRead ks ts n' p1))) fun _ => True)
            generalize (if sl (cl tx) 0 4 = "both" then lRead ks ts n' p0 else if p0 ∈ ts then .str p0 else .none) = one at *
            refine run_seq (S1 := ⟨fun _ => True, [some (.x (.d (toldD ks ts))), some (.x (.d (.str tx))), some (.x (.d (.list [.str p0, .str p1]))), some (.x (.d one)), none]⟩) (run_set hone) ?_
            refine run_seq (S1 := ⟨fun _ => True, [some (.x (.d (toldD ks ts))), some (.x (.d (.str tx))), some (.x (.d (.list [.str p0, .str p1]))), some (.x (.d one)), some (.x (.d (lRead ks ts n' p1)))]⟩) (run_set (cr rfl (q1 rfl) (by omega) (by omega))) ?_
            generalize lRead ks ts n' p1 = other at *
            have u1 := eb_test (ev_op (ev_var (c := c) (S := ⟨fun _ => True, [some (.x (.d (toldD ks ts))), some (.x (.d (.str tx))), some (.x (.d (.list [.str p0, .str p1]))), some (.x (.d one)), some (.x (.d other))]⟩) n3 rfl) ev_non (rv_notN (d := one)))
            have u2 := eb_test (ev_op (ev_var (c := c) (S := ⟨fun _ => True, [some (.x (.d (toldD ks ts))), some (.x (.d (.str tx))), some (.x (.d (.list [.str p0, .str p1]))), some (.x (.d one)), some (.x (.d other))]⟩) n4 rfl) ev_non (rv_notN (d := other)))
            unfold comb
            cases h1 : isNon one with
            | true =>
              rw [if_pos (.inl rfl)]
              exact run_ret (ev_ifF (eb_and0 (eb_is u1 (by rw [h1]; rfl))) ev_non)
            | false =>
              cases h2 : isNon other with
              | true =>
                rw [if_pos (.inr rfl)]
                exact run_ret (ev_ifF (eb_and1 (eb_is u1 (by rw [h1]; rfl)) (eb_is u2 (by rw [h2]; rfl))) ev_non)
              | false =>
                rw [if_neg (fun z => by rcases z with z | z <;> cases z)]
                exact run_ret (ev_ifT (eb_and1 (eb_is u1 (by rw [h1]; rfl)) (eb_is u2 (by rw [h2]; rfl))) (ev_tup (ds := [.str (sl (cl tx) 0 4), one, other]) (ea_cons (pre 4 rfl) (ea_cons (ev_var n3 rfl) (ea_cons (ev_var n4 rfl) ea_nil))) (by simp)))
end
end K2

/-! K2p -/
set_option Elab.async false
set_option linter.all false
set_option autoImplicit false
set_option maxRecDepth 100000
set_option maxHeartbeats 4000000
namespace K2
open PySem PySem.Spec PyProof.Rows L2 Tk
/-! ### the law's reader reads just the texts of shapes -/
theorem both_cl (a b : Sh) : cl (Sh.both a b).txt = cl "both(" ++ (cl a.txt ++ (cl ", " ++ cl b.txt)) ++ cl ")" := by
  show cl ((("both" : Str) ++ ("(" : Str) ++ (a.txt ++ (", " : Str) ++ b.txt)) ++ (")" : Str)) = _
  simp only [cl_app, List.append_assoc]
  rw [show cl "both(" = cl "both" ++ cl "(" from by decide +kernel, List.append_assoc]
theorem tied_cl (t : Str) (a : Sh) : cl (Sh.tied t a).txt = cl "tied(" ++ (cl t ++ (cl ", " ++ cl a.txt)) ++ cl ")" := by
  show cl ((("tied" : Str) ++ ("(" : Str) ++ (t ++ (", " : Str) ++ a.txt)) ++ (")" : Str)) = _
  simp only [cl_app, List.append_assoc]
  rw [show cl "tied(" = cl "tied" ++ cl "(" from by decide +kernel, List.append_assoc]
theorem sl_at {l : List Nat} {w : Str} {r : List Nat} {i j : Nat} (h : l.drop i = cl w ++ r) (hj : j = i + w.length) : sl l i j = w := by
  subst hj
  exact (mark_read h).1
theorem sl_head {w : Str} {r : List Nat} : sl (cl w ++ r) 0 w.length = w := sl_at (l := cl w ++ r) (by rw [List.drop_zero]) (Nat.zero_add _).symm
/-- a text that stands in brackets -/
theorem in_br {s x : Str} {m : List Nat} (h : cl s = cl x ++ m ++ cl ")") (hx : x.length = 5) : sl (cl s) 0 5 = x ∧ sl (cl s) (s.length - 1) s.length = ")" ∧ cl (sl (cl s) 5 (s.length - 1)) = m := by
  have hl : s.length = 5 + m.length + 1 := by
    rw [← cl_len s, h, List.length_append, List.length_append, cl_len, hx]
    rfl
  refine ⟨?_, ?_, ?_⟩
  · rw [h, List.append_assoc]
    have := sl_head (w := x) (r := m ++ cl ")")
    rw [hx] at this
    exact this
  · refine sl_at (r := []) ?_ (by rw [hl]; rfl)
    rw [h, List.drop_left' (by rw [List.length_append, cl_len, hx]; omega), List.append_nil]
  · rw [cl_sl, h, List.append_assoc, List.drop_left' (by rw [cl_len, hx]), hl]
    rw [List.take_append_of_le_length (by omega), List.take_of_length_le (by omega)]
theorem br_of {s : Str} (h3 : sl (cl s) 0 5 ∈ (["both(", "tied("] : List Str)) (h4 : sl (cl s) (s.length - 1) s.length = ")") : cl s = cl (sl (cl s) 0 5) ++ cl (sl (cl s) 5 (s.length - 1)) ++ cl ")" := by
  have hl := cl_len s
  have h5 : 5 ≤ s.length := by
    have e : (cl (sl (cl s) 0 5)).length = 5 := by
      rcases List.mem_cons.mp h3 with h | h
      · rw [h]
        decide +kernel
      · rw [List.mem_singleton.mp h]
        decide +kernel
    rw [cl_sl, List.length_take, List.drop_zero, hl] at e
    omega
  have e1 := drop_sl (l := cl s) (Nat.zero_le 5)
  rw [List.drop_zero] at e1
  have h6 : 6 ≤ s.length := by
    by_cases h : s.length = 5
    · exfalso
      rw [List.drop_eq_nil_of_le (by omega), List.append_nil] at e1
      have e2 : s = sl (cl s) 0 5 := str_ext e1
      rcases List.mem_cons.mp h3 with h3 | h3
      · rw [e2.trans h3] at h4
        exact absurd h4 (by decide +kernel)
      · rw [e2.trans (List.mem_singleton.mp h3)] at h4
        exact absurd h4 (by decide +kernel)
    · omega
  have e2 := drop_sl (l := cl s) (show 5 ≤ s.length - 1 by omega)
  have e3 := drop_sl (l := cl s) (show s.length - 1 ≤ s.length by omega)
  have hd : (cl s).drop s.length = [] := List.drop_eq_nil_of_le (by omega)
  rw [h4, hd, List.append_nil] at e3
  rw [e3] at e2
  rw [e2, ← List.append_assoc] at e1
  exact e1
theorem cut_of {m : List Nat} {i : Nat} (h : cutAt m i = true) : m = cl (sl m 0 i) ++ (cl ", " ++ cl (sl m (i + 2) m.length)) := by
  unfold cutAt at h
  rw [Bool.and_eq_true] at h
  have h2 := of_decide_eq_true h.2
  have hl : i + 2 ≤ m.length := by
    have e : (cl (sl m i (i + 2))).length = 2 := by
      rw [h2]
      decide +kernel
    rw [cl_sl, List.length_take, List.length_drop] at e
    omega
  have e1 := drop_sl (l := m) (Nat.zero_le i)
  have e2 := drop_sl (l := m) (Nat.le_add_right i 2)
  have e3 := drop_sl (l := m) hl
  rw [List.drop_eq_nil_of_le (Nat.le_refl _), List.append_nil] at e3
  rw [List.drop_zero] at e1
  rw [h2, e3] at e2
  rw [e2] at e1
  exact e1
theorem dat_some (sh : Sh) : isNon sh.dat = false := by cases sh <;> rfl
theorem pre4 {s : Str} (h3 : sl (cl s) 0 5 ∈ (["both(", "tied("] : List Str)) : (sl (cl s) 0 5 = "both(" ∧ sl (cl s) 0 4 = "both") ∨ (sl (cl s) 0 5 = "tied(" ∧ sl (cl s) 0 4 = "tied") := by
  have e1 := drop_sl (l := cl s) (Nat.zero_le 5)
  rw [List.drop_zero] at e1
  rcases List.mem_cons.mp h3 with h | h
  · refine .inl ⟨h, sl_at (r := cl "(" ++ (cl s).drop 5) ?_ (by decide +kernel)⟩
    rw [List.drop_zero]
    rw [h] at e1
    exact e1
  · have h := List.mem_singleton.mp h
    refine .inr ⟨h, sl_at (r := cl "(" ++ (cl s).drop 5) ?_ (by decide +kernel)⟩
    rw [List.drop_zero]
    rw [h] at e1
    exact e1
theorem comb_inv {x : Str} {a b : PyData} (h : isNon (comb x a b) = false) : isNon a = false ∧ isNon b = false ∧ comb x a b = .tuple [.str x, a, b] := by
  cases ha : isNon a with
  | true =>
    have e : comb x a b = .none := if_pos (.inl ha)
    rw [e] at h
    cases h
  | false =>
    cases hb : isNon b with
    | true =>
      have e : comb x a b = .none := if_pos (.inr hb)
      rw [e] at h
      cases h
    | false =>
      refine ⟨rfl, rfl, if_neg fun z => ?_⟩
      rw [ha, hb] at z
      rcases z with z | z <;> cases z
theorem lr_sound {ks ts : List Str} : ∀ (n : Nat) (s : Str), isNon (lRead ks ts n s) = false → ∃ sh : Sh, sh.wf ks ts ∧ s = sh.txt ∧ lRead ks ts n s = sh.dat := by
  intro n
  induction n with
  | zero =>
    intro s h
    rw [lRead_eq] at h ⊢
    unfold lStep at h ⊢
    split at h
    · rename_i h12
      rw [if_pos h12]
      by_cases h2 : s ∈ ks
      · rw [if_pos h2]
        exact ⟨.kind s, h2, rfl, rfl⟩
      · rw [if_neg h2]
        rcases h12 with h1 | h1
        · rcases List.mem_cons.mp h1 with rfl | h1
          · exact ⟨.any, trivial, rfl, rfl⟩
          · obtain rfl := List.mem_singleton.mp h1
            exact ⟨.none, trivial, rfl, rfl⟩
        · exact absurd h1 h2
    · split at h
      · cases h
      · exfalso
        split at h
        · have q := (comb_inv h).2.1
          cases q
        · cases h
  | succ n ih =>
    intro s h
    rw [lRead_eq] at h ⊢
    unfold lStep at h ⊢
    split at h
    · rename_i h12
      rw [if_pos h12]
      by_cases h2 : s ∈ ks
      · rw [if_pos h2]
        exact ⟨.kind s, h2, rfl, rfl⟩
      · rw [if_neg h2]
        rcases h12 with h1 | h1
        · rcases List.mem_cons.mp h1 with rfl | h1
          · exact ⟨.any, trivial, rfl, rfl⟩
          · obtain rfl := List.mem_singleton.mp h1
            exact ⟨.none, trivial, rfl, rfl⟩
        · exact absurd h1 h2
    · rename_i h12
      rw [if_neg h12]
      split at h
      · cases h
      · rename_i h34
        rw [if_neg h34]
        have h3 : sl (cl s) 0 5 ∈ (["both(", "tied("] : List Str) := Classical.not_not.mp fun z => h34 (.inl z)
        have h4 : sl (cl s) (s.length - 1) s.length = ")" := Classical.not_not.mp fun z => h34 (.inr z)
        have hbr := br_of h3 h4
        have hp4 := pre4 h3
        generalize sl (cl s) 5 (s.length - 1) = mid at *
        cases hc : cuts (cl mid) (cl mid).length with
        | nil =>
          rw [hc] at h
          cases h
        | cons i r =>
          cases r with
          | cons i2 r2 =>
            rw [hc] at h
            cases h
          | nil =>
            rw [hc] at h
            dsimp only at h ⊢
            have hi : cutAt (cl mid) i = true := by
              have : i ∈ cuts (cl mid) (cl mid).length := by rw [hc]; simp
              exact (List.mem_filter.mp this).2
            have hm := cut_of hi
            generalize sl (cl mid) 0 i = p0 at *
            generalize sl (cl mid) (i + 2) (cl mid).length = p1 at *
            obtain ⟨hn1, hn2, hce⟩ := comb_inv h
            rw [hce]
            obtain ⟨b, b1, b2, b3⟩ := ih p1 hn2
            have e3 : recF ks ts (n + 1) p1 = b.dat := b3
            rcases hp4 with ⟨g5, g4⟩ | ⟨g5, g4⟩
            · rw [g4, if_pos rfl] at hn1 ⊢
              obtain ⟨a, a1, a2, a3⟩ := ih p0 hn1
              have e2 : recF ks ts (n + 1) p0 = a.dat := a3
              refine ⟨.both a b, ⟨a1, b1⟩, str_ext ?_, by rw [e2, e3]; rfl⟩
              show cl s = cl (Sh.both a b).txt
              rw [hbr, hm, g5, a2, b2, both_cl]
            · have ne : ¬ ("tied" : Str) = "both" := by decide +kernel
              rw [g4, if_neg ne] at hn1 ⊢
              by_cases hpt : p0 ∈ ts
              · rw [if_pos hpt]
                refine ⟨.tied p0 b, ⟨hpt, b1⟩, str_ext ?_, by rw [e3]; rfl⟩
                show cl s = cl (Sh.tied p0 b).txt
                rw [hbr, hm, g5, b2, tied_cl]
              · rw [if_neg hpt] at hn1
                cases hn1
/-! ### brackets -/
theorem bal_app (a b : List Nat) : bal (a ++ b) = bal a + bal b := by
  unfold bal
  rw [List.count_append, List.count_append]
  omega
/-- each comma stands at least d deep -/
def Nest (d : Int) (l : List Nat) : Prop := ∀ i, l[i]? = some 44 → d ≤ bal (l.take i)
theorem Nest.low {d e : Int} {l : List Nat} (h : Nest d l) (hd : e ≤ d) : Nest e l := fun i hi => Int.le_trans hd (h i hi)
theorem Nest.app {d : Int} {a b : List Nat} (ha : Nest d a) (hb : Nest (d - bal a) b) : Nest d (a ++ b) := fun i hi => by
  by_cases h : i < a.length
  · rw [List.getElem?_append_left h] at hi
    rw [List.take_append_of_le_length (by omega)]
    exact ha i hi
  · rw [List.getElem?_append_right (by omega)] at hi
    have e : (a ++ b).take i = a ++ b.take (i - a.length) := by
      rw [List.take_append, List.take_of_length_le (by omega)]
    rw [e, bal_app]
    have := hb _ hi
    omega
theorem Nest.none {d : Int} {l : List Nat} (h : ∀ c ∈ l, c ≠ 44) : Nest d l := fun i hi => absurd rfl (h 44 (List.mem_of_getElem? hi))
theorem bal_word {l : List Nat} (h : ∀ c ∈ l, 97 ≤ c) : bal l = 0 := by
  unfold bal
  rw [List.count_eq_zero_of_not_mem (fun z => by have := h _ z; omega), List.count_eq_zero_of_not_mem (fun z => by have := h _ z; omega)]
  rfl
theorem pw_ge {k : Str} (h : Pw k) : ∀ c ∈ cl k, 97 ≤ c := fun c hc => (h.2.2.1 c hc).1
theorem txt_bal {ks ts : List Str} (hok : Wok ks ts) : ∀ sh : Sh, sh.wf ks ts → bal (cl sh.txt) = 0 ∧ Nest 1 (cl sh.txt)
  | .any, _ => ⟨by decide +kernel, .none (by decide +kernel)⟩
  | .none, _ => ⟨by decide +kernel, .none (by decide +kernel)⟩
  | .kind k, h => ⟨bal_word (pw_ge (hok.1 k h)), .none fun c hc => by have := pw_ge (hok.1 k h) c hc; omega⟩
  | .both a b, h => by
    obtain ⟨a1, a2⟩ := txt_bal hok a h.1
    obtain ⟨b1, b2⟩ := txt_bal hok b h.2
    have f1 : bal (cl "both(") = 1 := by decide +kernel
    have f2 : bal (cl ", ") = 0 := by decide +kernel
    have f3 : bal (cl ")") = -1 := by decide +kernel
    rw [both_cl]
    refine ⟨by simp only [bal_app, f1, f2, f3, a1, b1]; decide, ?_⟩
    refine .app (.app (.none (by decide +kernel)) (.app (a2.low (by rw [f1]; decide)) (.app ?_ (b2.low (by rw [f1, a1, f2]; decide))))) (.none (by decide +kernel))
    intro i hi
    have h2 : i = 0 ∨ i = 1 ∨ 2 ≤ i := by omega
    have el : cl ", " = [44, 32] := by decide +kernel
    rw [f1, a1]
    rcases h2 with rfl | rfl | h2
    · decide +kernel
    · rw [el] at hi
      cases hi
    · rw [el] at hi
      rw [List.getElem?_eq_none (by simpa using h2)] at hi
      cases hi
  | .tied t a, h => by
    obtain ⟨b1, b2⟩ := txt_bal hok a h.2
    have a1 := bal_word (pw_ge (hok.2 t h.1))
    have a2 : Nest 1 (cl t) := .none fun c hc => by have := pw_ge (hok.2 t h.1) c hc; omega
    have f1 : bal (cl "tied(") = 1 := by decide +kernel
    have f2 : bal (cl ", ") = 0 := by decide +kernel
    have f3 : bal (cl ")") = -1 := by decide +kernel
    rw [tied_cl]
    refine ⟨by simp only [bal_app, f1, f2, f3, a1, b1]; decide, ?_⟩
    refine .app (.app (.none (by decide +kernel)) (.app (a2.low (by rw [f1]; decide)) (.app ?_ (b2.low (by rw [f1, a1, f2]; decide))))) (.none (by decide +kernel))
    intro i hi
    have h2 : i = 0 ∨ i = 1 ∨ 2 ≤ i := by omega
    have el : cl ", " = [44, 32] := by decide +kernel
    rw [f1, a1]
    rcases h2 with rfl | rfl | h2
    · decide +kernel
    · rw [el] at hi
      cases hi
    · rw [el] at hi
      rw [List.getElem?_eq_none (by simpa using h2)] at hi
      cases hi
theorem filter_one {p : Nat → Bool} {a : Nat} : ∀ n, a < n → (∀ j, j < n → p j = decide (j = a)) → (List.range n).filter p = [a]
  | 0, h, _ => absurd h (Nat.not_lt_zero _)
  | n + 1, h, hp => by
    rw [List.range_succ, List.filter_append]
    by_cases e : a = n
    · subst e
      have e1 : (List.range a).filter p = [] := List.filter_eq_nil_iff.mpr fun j hj => by
        have hj' := List.mem_range.mp hj
        rw [hp j (by omega), decide_eq_true_eq]
        omega
      rw [e1]
      simp [hp a (by omega)]
    · rw [filter_one n (by omega) fun j hj => hp j (by omega)]
      have : p n = false := by rw [hp n (by omega)]; exact decide_eq_false (fun z => e z.symm)
      simp [this]
theorem cuts_one {a b : List Nat} (ha : bal a = 0) (na : Nest 1 a) (nb : Nest 1 b) : cuts (a ++ (cl ", " ++ b)) (a ++ (cl ", " ++ b)).length = [a.length] := by
  have el : cl ", " = [44, 32] := by decide +kernel
  refine filter_one _ (by rw [List.length_append, List.length_append, el]; simp; omega) fun j hj => ?_
  by_cases e : j = a.length
  · subst e
    rw [decide_eq_true rfl]
    unfold cutAt
    have h1 : sl (a ++ (cl ", " ++ b)) a.length (a.length + 2) = ", " := sl_at (r := b) (by rw [List.drop_left]) (by rw [show (", " : Str).length = 2 from by decide +kernel])
    have h2 : bal ((a ++ (cl ", " ++ b)).take (a.length + 1)) = 0 := by
      rw [List.take_append, List.take_of_length_le (by omega), el, bal_app, ha]
      show 0 + bal (([44, 32] ++ b).take (a.length + 1 - a.length)) = 0
      rw [show a.length + 1 - a.length = 1 by omega]
      rfl
    rw [h1, h2]
    decide +kernel
  · rw [decide_eq_false e]
    cases hc : cutAt (a ++ (cl ", " ++ b)) j with
    | false => rfl
    | true =>
      exfalso
      unfold cutAt at hc
      rw [Bool.and_eq_true] at hc
      have h1 := of_decide_eq_true hc.1
      have h2 := of_decide_eq_true hc.2
      have hcm : (a ++ (cl ", " ++ b))[j]? = some 44 := by
        have e3 := drop_sl (l := a ++ (cl ", " ++ b)) (Nat.le_add_right j 2)
        rw [h2, el] at e3
        have := congrArg (fun l => l[0]?) e3
        rw [List.getElem?_drop] at this
        exact this
      rw [bal_take hcm] at h1
      simp at h1
      have nn : Nest 1 (a ++ (cl ", " ++ b)) ∨ True := .inr trivial
      by_cases hj1 : j < a.length
      · rw [List.getElem?_append_left hj1] at hcm
        have := na j hcm
        rw [List.take_append_of_le_length (by omega)] at h1
        omega
      · rw [List.getElem?_append_right (by omega), el] at hcm
        have hj2 : j - a.length = 1 ∨ 2 ≤ j - a.length := by omega
        rcases hj2 with hj2 | hj2
        · rw [hj2] at hcm
          cases hcm
        · have hb : b[j - a.length - 2]? = some 44 := by
            rw [List.getElem?_append_right (by simpa using hj2)] at hcm
            exact hcm
          have := nb _ hb
          have e4 : (a ++ (cl ", " ++ b)).take j = a ++ (cl ", " ++ b.take (j - a.length - 2)) := by
            rw [List.take_append, List.take_of_length_le (by omega), el, List.take_append, List.take_of_length_le (by simpa using hj2)]
            rfl
          rw [e4, bal_app, bal_app, ha, show bal (cl ", ") = 0 from by decide +kernel] at h1
          omega
theorem no_leaf {ks ts : List Str} (hok : Wok ks ts) {s : Str} (h : 0 < (cl s).count 40) : ¬ (s ∈ (["any", "none"] : List Str) ∨ s ∈ ks) := by
  intro z
  have nm : 40 ∉ cl s := by
    rcases z with z | z
    · rcases List.mem_cons.mp z with rfl | z
      · decide +kernel
      · rw [List.mem_singleton.mp z]
        decide +kernel
    · exact fun q => by have := pw_ge (hok.1 s z) _ q; omega
  rw [List.count_eq_zero_of_not_mem nm] at h
  exact absurd h (by decide)
theorem lr_complete {ks ts : List Str} (hok : Wok ks ts) : ∀ (sh : Sh) (n : Nat), sh.wf ks ts → (cl sh.txt).count 40 ≤ n → lRead ks ts n sh.txt = sh.dat
  | .any, n, _, _ => by
    rw [lRead_eq]
    unfold lStep
    have h : (Sh.any).txt ∉ ks := fun z => (hok.1 _ z).2.2.2 (by show ("any" : Str) ∈ _; simp)
    rw [if_pos (.inl (by show ("any" : Str) ∈ _; simp)), if_neg h]
    rfl
  | .none, n, _, _ => by
    rw [lRead_eq]
    unfold lStep
    have h : (Sh.none).txt ∉ ks := fun z => (hok.1 _ z).2.2.2 (by show ("none" : Str) ∈ _; simp)
    rw [if_pos (.inl (by show ("none" : Str) ∈ _; simp)), if_neg h]
    rfl
  | .kind k, n, hw, _ => by
    rw [lRead_eq]
    unfold lStep
    rw [if_pos (.inr hw), if_pos (show (Sh.kind k).txt ∈ ks from hw)]
    rfl
  | .both a b, n, hw, hn => by
    obtain ⟨a1, a2⟩ := txt_bal hok a hw.1
    obtain ⟨b1, b2⟩ := txt_bal hok b hw.2
    have hc : (cl (Sh.both a b).txt).count 40 = 1 + (cl a.txt).count 40 + (cl b.txt).count 40 := by
      rw [both_cl]
      simp only [List.count_append]
      rw [show (cl "both(").count 40 = 1 from by decide +kernel, show (cl ", ").count 40 = 0 from by decide +kernel, show (cl ")").count 40 = 0 from by decide +kernel]
      omega
    obtain ⟨n, rfl⟩ : ∃ m, n = m + 1 := ⟨n - 1, by omega⟩
    have ia := lr_complete hok a n hw.1 (by omega)
    have ib := lr_complete hok b n hw.2 (by omega)
    obtain ⟨q1, q2, q3⟩ := in_br (both_cl a b) (by decide +kernel)
    rw [lRead_eq]
    unfold lStep
    rw [if_neg (no_leaf hok (by omega)), q1, q2, q3, if_neg (fun z => z.elim (fun z => z (by simp)) fun z => z rfl), cuts_one a1 a2 b2]
    dsimp only
    have p4 : sl (cl (Sh.both a b).txt) 0 4 = "both" := sl_at (r := cl "(" ++ (cl a.txt ++ (cl ", " ++ cl b.txt)) ++ cl ")") (by rw [List.drop_zero, both_cl, show cl "both(" = cl "both" ++ cl "(" from by decide +kernel]; simp only [List.append_assoc]) (by decide +kernel)
    have e0 : sl (cl a.txt ++ (cl ", " ++ cl b.txt)) 0 (cl a.txt).length = a.txt := by rw [cl_len]; exact sl_head
    have e1 : sl (cl a.txt ++ (cl ", " ++ cl b.txt)) ((cl a.txt).length + 2) (cl a.txt ++ (cl ", " ++ cl b.txt)).length = b.txt := by
      have el : (cl ", ").length = 2 := by decide +kernel
      refine sl_at (r := []) ?_ (by rw [List.length_append, List.length_append, el, cl_len, cl_len]; omega)
      rw [← List.append_assoc, List.drop_left' (by rw [List.length_append, el]), List.append_nil]
    rw [p4, if_pos rfl, e0, e1]
    show comb "both" (lRead ks ts n a.txt) (lRead ks ts n b.txt) = _
    rw [ia, ib]
    unfold comb
    rw [dat_some, dat_some, if_neg (by decide)]
    rfl
  | .tied t a, n, hw, hn => by
    obtain ⟨b1, b2⟩ := txt_bal hok a hw.2
    have ht := hok.2 t hw.1
    have a1 := bal_word (pw_ge ht)
    have a2 : Nest 1 (cl t) := .none fun c hc => by have := pw_ge ht c hc; omega
    have hc : (cl (Sh.tied t a).txt).count 40 = 1 + (cl t).count 40 + (cl a.txt).count 40 := by
      rw [tied_cl]
      simp only [List.count_append]
      rw [show (cl "tied(").count 40 = 1 from by decide +kernel, show (cl ", ").count 40 = 0 from by decide +kernel, show (cl ")").count 40 = 0 from by decide +kernel]
      omega
    obtain ⟨n, rfl⟩ : ∃ m, n = m + 1 := ⟨n - 1, by omega⟩
    have ia := lr_complete hok a n hw.2 (by omega)
    obtain ⟨q1, q2, q3⟩ := in_br (tied_cl t a) (by decide +kernel)
    rw [lRead_eq]
    unfold lStep
    rw [if_neg (no_leaf hok (by omega)), q1, q2, q3, if_neg (fun z => z.elim (fun z => z (by simp)) fun z => z rfl), cuts_one a1 a2 b2]
    dsimp only
    have p4 : sl (cl (Sh.tied t a).txt) 0 4 = "tied" := sl_at (r := cl "(" ++ (cl t ++ (cl ", " ++ cl a.txt)) ++ cl ")") (by rw [List.drop_zero, tied_cl, show cl "tied(" = cl "tied" ++ cl "(" from by decide +kernel]; simp only [List.append_assoc]) (by decide +kernel)
    have e0 : sl (cl t ++ (cl ", " ++ cl a.txt)) 0 (cl t).length = t := by rw [cl_len]; exact sl_head
    have e1 : sl (cl t ++ (cl ", " ++ cl a.txt)) ((cl t).length + 2) (cl t ++ (cl ", " ++ cl a.txt)).length = a.txt := by
      have el : (cl ", ").length = 2 := by decide +kernel
      refine sl_at (r := []) ?_ (by rw [List.length_append, List.length_append, el, cl_len, cl_len]; omega)
      rw [← List.append_assoc, List.drop_left' (by rw [List.length_append, el]), List.append_nil]
    rw [p4, if_neg (by decide +kernel), e0, e1, if_pos hw.1]
    show comb "tied" (.str t) (lRead ks ts n a.txt) = _
    rw [ia]
    unfold comb
    rw [dat_some, if_neg (fun z => by rcases z with z | z <;> cases z)]
    rfl
/-- what the law's reader tells -/
theorem lr_spec {ks ts : List Str} (hok : Wok ks ts) {n : Nat} {s : Str} (h : (cl s).count 40 ≤ n) : (∃ sh : Sh, sh.wf ks ts ∧ s = sh.txt ∧ lRead ks ts n s = sh.dat) ∨ ((∀ sh : Sh, sh.wf ks ts → s ≠ sh.txt) ∧ lRead ks ts n s = .none) := by
  cases q : isNon (lRead ks ts n s) with
  | false => exact .inl (lr_sound n s q)
  | true =>
    refine .inr ⟨fun sh hw e => ?_, ?_⟩
    · subst e
      rw [lr_complete hok sh n hw h, dat_some] at q
      cases q
    · cases e : lRead ks ts n s <;> rw [e] at q <;> first | rfl | cases q
end K2

/-! K2q -/
set_option Elab.async false
set_option linter.all false
set_option autoImplicit false
set_option maxRecDepth 100000
set_option maxHeartbeats 4000000
namespace Tk
open PySem PySem.Spec PyProof.Rows L2
section
variable {c : Cn} {S S1 : Stt} {te : TE}
/-- an own list + a list -/
theorem eo_catO {i : Nat} {ds es : List PyData} (hn : i < c.n) (hi : S.G[i]? = some (some (En.own ds))) (h : EvS c S te (.d (.list es)) S) (hl : ds.length + es.length ≤ 100000) : EvO c S (tOp rCat (tVar i) te) (ds ++ es) S := fun A σ H L Q q => by
  obtain ⟨e1, _, _, _, _, _⟩ := L.own i ds hi
  refine ⟨_, e1 hn, h A σ H L _ fun v H1 L1 s1 r1 => ?_⟩
  obtain ⟨_, _, _, ys, a4, a5⟩ := L1.own i ds hi
  obtain ⟨b, zs, rfl, h3, h4⟩ := Dt.lst_inv r1
  refine ⟨_, b, ys, zs, rfl, rfl, a4, hidP_le _ _ h3, ?_, fun p hp => q p _ H1 L1 s1 (a5.app h4) hp⟩
  rw [a5.len, h4.len]
  exact Nat.le_trans hl (by decide)
end
end Tk
namespace K2
open PySem PySem.Spec PyProof.Rows L2 Tk
abbrev sLK : Stmt := topS 43
theorem scLK : FnScope ["thing", "found", "line", "here", "kind", "named", "key", "name"] ["thing"] (defScope sLK) := ⟨rfl, rfl, rfl, by decide +kernel, rfl, by decide +kernel, by decide +kernel⟩
abbrev sLY : Stmt := topS 44
theorem scLY : FnScope ["told", "due"] ["told", "due"] (defScope sLY) := ⟨rfl, rfl, rfl, by decide +kernel, rfl, by decide +kernel, by decide +kernel⟩

def kName : PyData → Str
  | .tuple _ => "tuple"
  | .list _ => "list"
  | .dict _ => "dict"
  | .bool _ => "bool"
  | _ => "other"
def kids : PyData → List PyData
  | .tuple ds => ds
  | .list ds => ds
  | _ => []
mutual
def nd : PyData → Nat
  | .tuple ds => ndAll ds + 1
  | .list ds => ndAll ds + 1
  | _ => 1
def ndAll : List PyData → Nat
  | [] => 0
  | d :: r => nd d + ndAll r
end
theorem nd_kids (d : PyData) : nd d = ndAll (kids d) + 1 := by cases d <;> simp [nd, kids, ndAll]
theorem ndAll_app : ∀ a b : List PyData, ndAll (a ++ b) = ndAll a + ndAll b
  | [], b => by simp [ndAll]
  | x :: r, b => by
    show nd x + ndAll (r ++ b) = nd x + ndAll r + ndAll b
    rw [ndAll_app r b, Nat.add_assoc]
theorem ndAll_rev : ∀ a : List PyData, ndAll a.reverse = ndAll a
  | [] => rfl
  | x :: r => by
    rw [List.reverse_cons, ndAll_app, ndAll_rev r]
    show ndAll r + (nd x + 0) = nd x + ndAll r
    omega
theorem nd_pos (d : PyData) : 0 < nd d := by rw [nd_kids]; omega
theorem len_nd : ∀ a : List PyData, a.length ≤ ndAll a
  | [] => Nat.le_refl _
  | x :: r => by
    have h1 := len_nd r
    have h2 := nd_pos x
    show r.length + 1 ≤ nd x + ndAll r
    omega
def kGo : Nat → List PyData → List Str
  | _, [] => []
  | 0, _ => []
  | n + 1, h :: r => kName h :: kGo n ((kids h).reverse ++ r)
theorem kName_ok : ∀ d : PyData, PyData.strOk (kName d) = true
  | .tuple _ => (by decide +kernel : PyData.strOk "tuple" = true)
  | .list _ => (by decide +kernel : PyData.strOk "list" = true)
  | .dict _ => (by decide +kernel : PyData.strOk "dict" = true)
  | .bool _ => (by decide +kernel : PyData.strOk "bool" = true)
  | .none => (by decide +kernel : PyData.strOk "other" = true)
  | .int _ => (by decide +kernel : PyData.strOk "other" = true)
  | .str _ => (by decide +kernel : PyData.strOk "other" = true)
theorem kGo_ok : ∀ (n : Nat) (st : List PyData), ∀ x ∈ kGo n st, PyData.strOk x = true
  | _, [], x, h => by
    unfold kGo at h
    cases h
  | 0, _ :: _, x, h => by
    unfold kGo at h
    cases h
  | n + 1, d :: r, x, h => by
    unfold kGo at h
    rcases List.mem_cons.mp h with rfl | h
    · exact kName_ok d
    · exact kGo_ok n _ x h
theorem kids_sd {k : Nat} {h d : PyData} (hs : Sd k h) (hd : d ∈ kids h) : Sd k d := by
  cases h with
  | tuple ds =>
    cases k with
    | zero => exact absurd hs.2 (by simp [PyData.depth])
    | succ k => exact (hs.of_tup hd).up (Nat.le_succ k)
  | list ds =>
    cases k with
    | zero => exact absurd hs.2 (by simp [PyData.depth])
    | succ k => exact (Sd.of_tup (k := k) (ds := ds) hs hd).up (Nat.le_succ k)
  | _ => cases hd
def lkS (th : PyData) (fnd : List Str) (st : List PyData) (e3 e4 : Option En) : Stt := ⟨fun _ => True, [some (.x (.d th)), some (.own (fnd.map .str)), some (.own st.reverse), e3, e4, none, none, none]⟩
section
variable {P : Program} {w : World} {K : PySem.W.Frag} {mg : Str → Option Value} {base : Heap} {C : Addr}

def mLK (xs : List Dx) (r : Res) : Prop := ∃ d, xs = [.d d] ∧ Sd 63 d ∧ nd d ≤ 40000 ∧ r = .ok (.d (.list ((kGo (nd d) [d]).map .str)))
theorem ok_lk {f : Addr} {fd : FuncData} (F : Fun K "_law_kinds" "_law_kinds" sLK f fd) (M : MT P w K mg base C) : FnOk P w K mg base (L2.CX P w) 2 f fd ["thing"] (spF K C mLK) := by
  refine fn_ok F scLK (fun xs r ⟨_, h, _⟩ => by rw [h]; rfl) fun cdv A outer s H E hr xs r ⟨d, h1, hs, hz, h3⟩ => ?_
  subst h1 h3
  have hr1 : Room 1 _ := hr
  refine ⟨_, (pss_cons (ps_par (i := 1) (j := 2) rfl scLK.nd rfl rfl (by decide) rfl rfl (pa_cons (pe_lst pa_nil) (pa_cons (pe_lst (pa_cons (pv 0) pa_nil)) pa_nil)) rfl)
      (pss_cons (ps_while pown (pt_cmpR (op_neD hr1.units) (pv 2) (pe_lst pa_nil) (nomark _)) (pss_cons (ps_set (i := 3) scLK.nd rfl (.inr rfl) (pe_bm0 PySem.F.plainAttrs_list PySem.F.slot_list_pop PySem.F.type_list_pop mt_pop (pv 2)))
      (pss_cons (ps_set (i := 4) scLK.nd rfl (.inl rfl) (pe_ifExp (pt_val (pe_callB call_isi (by rfl) (M.B "isinstance" (by decide)) boot_isinstance (pa_cons (pv 3) (pa_cons (pe_bltn (v := .ty "tuple") (by rfl) (M.B "tuple" (by decide)) (by decide +kernel) rfl) pa_nil)))) pe_str (pe_ifExp (pt_val (pe_callB call_isi (by rfl) (M.B "isinstance" (by decide)) boot_isinstance (pa_cons (pv 3) (pa_cons (pe_bltn (v := .ty "list") (by rfl) (M.B "list" (by decide)) (by decide +kernel) rfl) pa_nil)))) pe_str (pe_ifExp (pt_val (pe_callB call_isi (by rfl) (M.B "isinstance" (by decide)) boot_isinstance (pa_cons (pv 3) (pa_cons (pe_bltn (v := .ty "dict") (by rfl) (M.B "dict" (by decide)) (by decide +kernel) rfl) pa_nil)))) pe_str (pe_ifExp (pt_val (pe_callB call_isi (by rfl) (M.B "isinstance" (by decide)) boot_isinstance (pa_cons (pv 3) (pa_cons (pe_bltn (v := .ty "bool") (by rfl) (M.B "bool" (by decide)) (by decide +kernel) rfl) pa_nil)))) pe_str pe_str)))))
      (pss_cons (ps_expr (pe_bm PySem.F.plainAttrs_list PySem.F.slot_list_append PySem.F.type_list_append mt_append (pv 1) (pa_cons (pv 4) pa_nil)))
      (pss_cons (ps_if (pt_cmpR op_in_seq (pv 4) (pe_lst (pa_cons pe_str (pa_cons pe_str pa_nil))) rfl) (pss_one (ps_set (i := 2) scLK.nd rfl (.inl rfl) (pe_op op_cat (pv 2) (pe_callTy call_lstOf (by rfl) (M.B "list" (by decide)) (by decide +kernel) (pa_cons (pv 3) pa_nil))))) pss_nil)
      (pss_one (ps_if (pt_cmpR op_eq (pv 4) pe_str (nomark _)) (pss_cons ps_never
      (pss_one ps_never)) pss_nil)))))))
      (pss_one (ps_ret (pv 1))))), fun c hc => ?_⟩
  obtain ⟨rfl, rfl, hn, hm⟩ := hc
  refine end_run (fun _ => True) ?_
  have n0 : 0 < c.n := by rw [hn]; exact (by decide : 0 < 8)
  have n1 : 1 < c.n := by rw [hn]; exact (by decide : 1 < 8)
  have n2 : 2 < c.n := by rw [hn]; exact (by decide : 2 < 8)
  have n3 : 3 < c.n := by rw [hn]; exact (by decide : 3 < 8)
  have n4 : 4 < c.n := by rw [hn]; exact (by decide : 4 < 8)
  have v0 : EvS c ((S0 8 [.d d]).gh []) (tVar 0) (.d d) ((S0 8 [.d d]).gh []) := ev_var n0 rfl
  refine run_seq (S1 := lkS d [] [d] none none) (run_parOO (S1 := S0 8 [.d d]) (eo_lst (ds := []) ea_nil (Nat.zero_le _)) (eo_lst (ds := [d]) (ea_cons v0 ea_nil) (by simp)) n1 n2 (by decide) (by rw [hn]; exact Nat.le_refl 8)) ?_
  refine run_whileQ (n := nd d) (fun n S => ∃ st acc e3 e4, S = lkS d acc st e3 e4 ∧ n = ndAll st ∧ n + acc.length ≤ nd d ∧ (∀ x ∈ st, Sd 63 x) ∧ acc ++ kGo n st = kGo (nd d) [d]) (fun S => ∃ e3 e4, S = lkS d (kGo (nd d) [d]) [] e3 e4)
    ⟨[d], [], none, none, rfl, (by simp [ndAll]), (by simp), (by simpa using hs), rfl⟩ ?_ fun S ⟨e3, e4, hS⟩ => by rw [hS]; exact run_retO n1 rfl
  rintro n S ⟨st, acc, e3, e4, rfl, hnd, hlen, hst, hgo⟩
  have ht : EvB c (lkS d acc st e3 e4) (tTest (tOp (rNeD c.K) (tVar 2) (tLst tNil))) (!st.reverse.isEmpty) (lkS d acc st e3 e4) := by
    have q := ev_neO (S := lkS d acc st e3 e4) (i := 2) (ds := st.reverse) (es := []) n2 rfl (ev_lst (ds := []) ea_nil (by decide)) ((Sd.lst (k := 63) fun x hx => hst x (by simpa using hx)).shaped (by decide)) (by decide +kernel)
    rw [eqv_nil] at q
    exact eb_test q
  cases st with
  | nil =>
    have e0 : kGo n [] = [] := by cases n <;> rfl
    rw [e0, List.append_nil] at hgo
    subst hgo
    exact .done ht ⟨e3, e4, rfl⟩
  | cons h r =>
    have ht' : EvB c (lkS d acc (h :: r) e3 e4) (tTest (tOp (rNeD c.K) (tVar 2) (tLst tNil))) true (lkS d acc (h :: r) e3 e4) := eb_is ht (by simp)
    have hh : Sd 63 h := hst h (by simp)
    have hk := nd_kids h
    have hnd' : n = nd h + ndAll r := hnd
    have hlr := len_nd r
    have hlk := len_nd (kids h)
    obtain ⟨n, rfl⟩ : ∃ m, n = m + 1 := ⟨n - 1, by omega⟩
    have ego : kGo (n + 1) (h :: r) = kName h :: kGo n ((kids h).reverse ++ r) := rfl
    rw [ego] at hgo
    have p1 : RunS c (lkS d acc (h :: r) e3 e4) (tAsg (tBM0 c.K "list" rPop (tVar 2)) (gName 3)) (.nx (lkS d acc r (some (.x (.d h))) e4)) :=
      run_set (ev_pop (ds := r.reverse) (d := h) n2 (by simp [lkS]))
    have v3 : ∀ {acc : List Str} {st : List PyData} {e4 : Option En}, EvS c (lkS d acc st (some (.x (.d h))) e4) (tVar 3) (.d h) (lkS d acc st (some (.x (.d h))) e4) := ev_var n3 rfl
    have ek : EvS c (lkS d acc r (some (.x (.d h))) e4) (tIf (tB (tCB (rIsi c.K) (tCons (tVar 3) (tCons (tC (.ty "tuple")) tNil)))) (tC (.str "tuple")) (tIf (tB (tCB (rIsi c.K) (tCons (tVar 3) (tCons (tC (.ty "list")) tNil)))) (tC (.str "list")) (tIf (tB (tCB (rIsi c.K) (tCons (tVar 3) (tCons (tC (.ty "dict")) tNil)))) (tC (.str "dict")) (tIf (tB (tCB (rIsi c.K) (tCons (tVar 3) (tCons (tC (.ty "bool")) tNil)))) (tC (.str "bool")) (tC (.str "other")))))) (.d (.str (kName h))) (lkS d acc r (some (.x (.d h))) e4) := by
      have b1 := eb_B (ev_isi (v3 (acc := acc) (st := r) (e4 := e4)) (kit_tup h) (lay_dic hh.1))
      have b2 := eb_B (ev_isi (v3 (acc := acc) (st := r) (e4 := e4)) (kit_lst h) (lay_dic hh.1))
      have b3 := eb_B (ev_isi (v3 (acc := acc) (st := r) (e4 := e4)) (kit_dic h) (lay_dic hh.1))
      have b4 := eb_B (ev_isi (v3 (acc := acc) (st := r) (e4 := e4)) (kit_bol h) (lay_dic hh.1))
      cases h with
      | tuple _ => exact ev_ifT b1 ev_str
      | list _ => exact ev_ifF b1 (ev_ifT b2 ev_str)
      | dict _ => exact ev_ifF b1 (ev_ifF b2 (ev_ifT b3 ev_str))
      | bool _ => exact ev_ifF b1 (ev_ifF b2 (ev_ifF b3 (ev_ifT b4 ev_str)))
      | _ => exact ev_ifF b1 (ev_ifF b2 (ev_ifF b3 (ev_ifF b4 ev_str)))
    have p2 : RunS c (lkS d acc r (some (.x (.d h))) e4) _ (.nx (lkS d acc r (some (.x (.d h))) (some (.x (.d (.str (kName h))))))) := run_set (i := 4) ek
    have p3 : RunS c (lkS d acc r (some (.x (.d h))) (some (.x (.d (.str (kName h)))))) (tDrop (tBM c.K "list" rAppend (tVar 1) (tCons (tVar 4) tNil))) (.nx (lkS d (acc ++ [kName h]) r (some (.x (.d h))) (some (.x (.d (.str (kName h))))))) := by
      have q := run_drop (ev_app (c := c) (S := lkS d acc r (some (.x (.d h))) (some (.x (.d (.str (kName h)))))) (i := 1) n1 rfl (ev_var (x := .d (.str (kName h))) n4 rfl) rfl (by rw [List.length_map]; omega))
      have e : (lkS d acc r (some (.x (.d h))) (some (.x (.d (.str (kName h)))))).own 1 (acc.map .str ++ [.str (kName h)]) = lkS d (acc ++ [kName h]) r (some (.x (.d h))) (some (.x (.d (.str (kName h))))) := by simp [lkS, Stt.own]
      rw [e] at q
      exact q
    have t4 : EvB c (lkS d (acc ++ [kName h]) r (some (.x (.d h))) (some (.x (.d (.str (kName h)))))) (tTest (tOp (rIn c.K false) (tVar 4) (tLst (tCons (tC (.str "tuple")) (tCons (tC (.str "list")) tNil))))) (decide (kName h ∈ (["tuple", "list"] : List Str))) _ :=
      eb_test (ev_op (ev_var n4 rfl) (ev_lst (ds := (["tuple", "list"] : List Str).map .str) (ea_cons ev_str (ea_cons ev_str ea_nil)) (by decide)) rv_inL)
    have p5 : RunS c (lkS d (acc ++ [kName h]) r (some (.x (.d h))) (some (.x (.d (.str (kName h)))))) (tIfS (tTest (tOp (rIn c.K false) (tVar 4) (tLst (tCons (tC (.str "tuple")) (tCons (tC (.str "list")) tNil))))) (tAsg (tOp rCat (tVar 2) (tCB (rLstOf c.K) (tCons (tVar 3) tNil))) (gName 2)) tNext) (.nx (lkS d (acc ++ [kName h]) ((kids h).reverse ++ r) (some (.x (.d h))) (some (.x (.d (.str (kName h))))))) := by
      have grow : ∀ {ds : List PyData}, kids h = ds → EvS c (lkS d (acc ++ [kName h]) r (some (.x (.d h))) (some (.x (.d (.str (kName h)))))) (tCB (rLstOf c.K) (tCons (tVar 3) tNil)) (.d (.list ds)) (lkS d (acc ++ [kName h]) r (some (.x (.d h))) (some (.x (.d (.str (kName h)))))) → RunS c (lkS d (acc ++ [kName h]) r (some (.x (.d h))) (some (.x (.d (.str (kName h)))))) (tAsg (tOp rCat (tVar 2) (tCB (rLstOf c.K) (tCons (tVar 3) tNil))) (gName 2)) (.nx (lkS d (acc ++ [kName h]) ((kids h).reverse ++ r) (some (.x (.d h))) (some (.x (.d (.str (kName h))))))) := fun {ds} hds he => by
        have q := run_own (i := 2) (eo_catO (i := 2) (ds := r.reverse) n2 rfl he (by rw [List.length_reverse, ← hds]; omega)) (show 2 < 8 by decide)
        have e : (lkS d (acc ++ [kName h]) r (some (.x (.d h))) (some (.x (.d (.str (kName h)))))).own 2 (r.reverse ++ ds) = lkS d (acc ++ [kName h]) ((kids h).reverse ++ r) (some (.x (.d h))) (some (.x (.d (.str (kName h))))) := by simp [lkS, Stt.own, hds]
        rw [e] at q
        exact q
      cases h with
      | tuple ds => exact run_ifT (eb_is t4 (show decide (("tuple" : Str) ∈ (["tuple", "list"] : List Str)) = true by decide +kernel)) (grow rfl (ev_lstT v3))
      | list ds => exact run_ifT (eb_is t4 (show decide (("list" : Str) ∈ (["tuple", "list"] : List Str)) = true by decide +kernel)) (grow rfl (ev_lstL v3))
      | dict _ => exact absurd hh.1 (by simp [PyData.canLay0])
      | bool _ => exact run_ifF (eb_is t4 (show decide (("bool" : Str) ∈ (["tuple", "list"] : List Str)) = false by decide +kernel)) run_next
      | none => exact run_ifF (eb_is t4 (by decide +kernel)) run_next
      | int _ => exact run_ifF (eb_is t4 (show decide (("other" : Str) ∈ (["tuple", "list"] : List Str)) = false by decide +kernel)) run_next
      | str _ => exact run_ifF (eb_is t4 (show decide (("other" : Str) ∈ (["tuple", "list"] : List Str)) = false by decide +kernel)) run_next
    have t6 : EvB c (lkS d (acc ++ [kName h]) ((kids h).reverse ++ r) (some (.x (.d h))) (some (.x (.d (.str (kName h)))))) (tTest (tOp rEq (tVar 4) (tC (.str "dict")))) (decide (kName h = "dict")) _ := eb_test (ev_op (ev_var n4 rfl) ev_str rv_eqS)
    have nd_ : ¬ kName h = "dict" := by
      cases h with
      | dict _ => exact absurd hh.1 (by simp [PyData.canLay0])
      | tuple _ => exact (by decide +kernel : ¬ ("tuple" : Str) = "dict")
      | list _ => exact (by decide +kernel : ¬ ("list" : Str) = "dict")
      | bool _ => exact (by decide +kernel : ¬ ("bool" : Str) = "dict")
      | none => exact (by decide +kernel : ¬ ("other" : Str) = "dict")
      | int _ => exact (by decide +kernel : ¬ ("other" : Str) = "dict")
      | str _ => exact (by decide +kernel : ¬ ("other" : Str) = "dict")
    refine .step n ht' (run_seq p1 (run_seq p2 (run_seq p3 (run_seq p5 (run_ifF (eb_is t6 (decide_eq_false nd_)) run_next))))) (Nat.lt_succ_self _) ⟨_, _, _, _, rfl, ?_, ?_, fun x hx => ?_, ?_⟩
    · rw [ndAll_app, ndAll_rev]
      omega
    · rw [List.length_append, List.length_singleton]
      omega
    · rcases List.mem_append.mp hx with hx | hx
      · exact kids_sd hh (by simpa using hx)
      · exact hst x (by simp [hx])
    · rw [List.append_assoc]
      exact hgo
def mLY (xs : List Dx) (r : Res) : Prop := ∃ d, xs = [.d d, .d d] ∧ Sd 63 d ∧ nd d ≤ 40000 ∧ r = .ok (.d (.bool true))
theorem ok_ly {f : Addr} {fd : FuncData} (F : Fun K "_law_says" "_law_says" sLY f fd) (h__law_kinds : Cal P w K mg base "_law_kinds" 2 ["thing"] (spF K C mLK)) : FnOk P w K mg base (L2.CX P w) 3 f fd ["told", "due"] (spF K C mLY) := by
  refine fn_ok F scLY (fun xs r ⟨_, h, _⟩ => by rw [h]; rfl) fun cdv A outer s H E hr xs r ⟨d, h1, hs, hz, h3⟩ => ?_
  subst h1 h3
  have hr1 : Room 2 _ := hr
  refine ⟨_, (pss_one (ps_ret (pe_and (pe_cmpR (op_eqD hr1.units) (pv 0) (pv 1) (nomark _)) (pe_one (pe_cmpR (op_eqD hr1.units) (pe_cal h__law_kinds hr1 pxE (pa_cons (pv 0) pa_nil)) (pe_cal h__law_kinds hr1 pxE (pa_cons (pv 1) pa_nil)) (nomark _)))))), fun c hc => ?_⟩
  obtain ⟨rfl, rfl, hn, hm⟩ := hc
  have n0 : 0 < c.n := by rw [hn]; exact (by decide : 0 < 2)
  have n1 : 1 < c.n := by rw [hn]; exact (by decide : 1 < 2)
  have sk : SeqAt.shaped (.list ((kGo (nd d) [d]).map .str)) = true := (Sd.lst (k := 0) fun x hx => by
    obtain ⟨y, hy, rfl⟩ := List.mem_map.mp hx
    exact .str (kGo_ok _ _ y hy)).shaped (by decide)
  have k0 := ev_callF (c := c) (m := mLK) (E := E) (z := .d (.list ((kGo (nd d) [d]).map .str))) (ea_cons (ev_var (S := S0 2 [.d d, .d d]) (x := .d d) n0 rfl) ea_nil) ⟨d, rfl, hs, hz, rfl⟩
  have k1 := ev_callF (c := c) (m := mLK) (E := E) (z := .d (.list ((kGo (nd d) [d]).map .str))) (ea_cons (ev_var (S := S0 2 [.d d, .d d]) (x := .d d) n1 rfl) ea_nil) ⟨d, rfl, hs, hz, rfl⟩
  refine end_ret (ev_and1 (ev_is (ev_op (ev_var n0 rfl) (ev_var n1 rfl) (rv_eq (hs.shaped (by decide)) (hs.shaped (by decide)))) (by rw [SeqAt.eqv_refl d hs.1])) (ev_is (ev_op k0 k1 (rv_eq sk sk)) (by rw [SeqAt.eqv_refl _ (SeqAt.canLay_of_shaped sk)])))
end
end K2

/-! K2r -/
set_option Elab.async false
set_option linter.all false
set_option autoImplicit false
set_option maxRecDepth 100000
set_option maxHeartbeats 4000000
namespace Tk
open PySem PySem.Spec PyProof.Rows L2
theorem u1 {k : Nat} {A : Around} (r : Room k A) : A.units + 1 < cLine := by
  have := r.units
  omega
end Tk
namespace K2
open PySem PySem.Spec PyProof.Rows L2 Tk
abbrev sMX : Stmt := topS 38
theorem scMX : FnScope ["draw", "turn", "found", "great", "blend", "cell"] ["draw"] (defScope sMX) := ⟨rfl, rfl, rfl, by decide +kernel, rfl, by decide +kernel, by decide +kernel⟩
abbrev sTA : Stmt := topS 39
theorem scTA : FnScope ["draw", "amount", "found"] ["draw", "amount"] (defScope sTA) := ⟨rfl, rfl, rfl, by decide +kernel, rfl, by decide +kernel, by decide +kernel⟩
abbrev sPK : Stmt := topS 40
theorem scPK : FnScope ["draw", "some"] ["draw", "some"] (defScope sPK) := ⟨rfl, rfl, rfl, by decide +kernel, rfl, by decide +kernel, by decide +kernel⟩
abbrev sSH : Stmt := topS 41
theorem scSH : FnScope ["draw", "some", "left", "found"] ["draw", "some"] (defScope sSH) := ⟨rfl, rfl, rfl, by decide +kernel, rfl, by decide +kernel, by decide +kernel⟩

def mixIn (t g : Int) : List Int → Int → Int
  | [], b => b
  | x :: r, b => mixIn t g r ((b * 69621 + x + t) % g)
def mixOne (t : Int) (cs : List Int) (f g : Int) : Int := f * 2147483659 + (mixIn t g cs ((t * 48271 + g / 11) % g)) ^ 5 % g
def greats : List Int := [2147483647, 2147483629, 2147483587]
def mixAll (t : Int) (cs : List Int) : List Int → Int → Int
  | [], f => f
  | g :: r, f => mixAll t cs r (mixOne t cs f g)
def mixed (d : Dst) : Int := mixAll (d.turn + 1) d.cells greats 0
theorem mixIn_rng {t g : Int} (hg : 0 < g) : ∀ (cs : List Int) (b : Int), 0 ≤ b → b < g → 0 ≤ mixIn t g cs b ∧ mixIn t g cs b < g
  | [], b, h1, h2 => ⟨h1, h2⟩
  | x :: r, b, _, _ => mixIn_rng hg r _ (Int.emod_nonneg _ (by omega)) (Int.emod_lt_of_pos _ hg)
def lastC : List Int → Option En → Option En
  | [], e => e
  | x :: r, _ => lastC r (some (.x (.d (.int x))))
def mxS (a la ca : Addr) (d : Dst) (t f : Int) (e3 e4 e5 : Option En) : Stt := ⟨Drw a la ca d, [some (.x (.raw (.ref a))), some (.x (.d (.int t))), some (.x (.d (.int f))), e3, e4, e5]⟩
section
variable {P : Program} {w : World} {K : PySem.W.Frag} {mg : Str → Option Value} {base : Heap} {C : Addr}

def mMX (d : Dst) (xs : List Dx) (z : Dx) (d' : Dst) : Prop := xs = [] ∧ z = .d (.int (mixed d)) ∧ d' = { d with turn := d.turn + 1 }
theorem ok_mx {f : Addr} {fd : FuncData} (F : Fun K "_law_mixed" "_law_mixed" sMX f fd) (M : MT P w K mg base C) : FnOk P w K mg base (L2.CX P w) 2 f fd ["draw"] (spD K C mMX) := by
  refine fn_okD F scMX (fun d xs z d' ⟨h, _⟩ => by rw [h]; rfl) fun cdv A outer s H E hr a la ca d xs z d' ⟨h1, h2, h3⟩ => ?_
  subst h1 h2 h3
  have hr1 : Room 1 _ := hr
  refine ⟨_, (pss_cons (ps_dput (u1 hr1) (pv 0) pe_str (pe_op op_add (pe_dget (u1 hr1) (pv 0) pe_str (fun _ _ => rfl)) pe_int) rfl)
      (pss_cons (ps_par (i := 1) (j := 2) rfl scMX.nd rfl rfl (by decide) rfl rfl (pa_cons (pe_callTy call_intOf (by rfl) (M.B "int" (by decide)) (by decide +kernel) (pa_cons (pe_dget (u1 hr1) (pv 0) pe_str (fun _ _ => rfl)) pa_nil)) (pa_cons pe_int pa_nil)) rfl)
      (pss_cons (ps_for pown rfl (pi_list (pe_lst (pa_cons pe_int (pa_cons pe_int (pa_cons pe_int pa_nil))))) (pg_name (i := 3) scMX.nd rfl (.inl rfl)) (pss_cons (ps_set (i := 4) scMX.nd rfl (.inl rfl) (pe_op op_mod (pe_op op_add (pe_op op_mul (pv 1) pe_int) (pe_op op_fdiv (pv 3) pe_int)) (pv 3)))
      (pss_cons (ps_for pown rfl (pi_list (pe_dget (u1 hr1) (pv 0) pe_str (fun _ _ => rfl))) (pg_name (i := 5) scMX.nd rfl (.inl rfl)) (pss_one (ps_set (i := 4) scMX.nd rfl (.inl rfl) (pe_op op_mod (pe_op op_add (pe_op op_add (pe_op op_mul (pv 4) pe_int) (pe_callTy call_intOf (by rfl) (M.B "int" (by decide)) (by decide +kernel) (pa_cons (pv 5) pa_nil))) (pv 1)) (pv 3)))))
      (pss_one (ps_set (i := 2) scMX.nd rfl (.inl rfl) (pe_op op_add (pe_op op_mul (pv 2) pe_int) (pe_op op_mod (pe_op op_pow (pv 4) pe_int) (pv 3))))))))
      (pss_one (ps_ret (pv 2)))))), fun c hK hC hn D => ?_⟩
  subst hK hC
  have n0 : 0 < c.n := by rw [hn]; exact (by decide : 0 < 6)
  have n1 : 1 < c.n := by rw [hn]; exact (by decide : 1 < 6)
  have n2 : 2 < c.n := by rw [hn]; exact (by decide : 2 < 6)
  have n3 : 3 < c.n := by rw [hn]; exact (by decide : 3 < 6)
  have n4 : 4 < c.n := by rw [hn]; exact (by decide : 4 < 6)
  have n5 : 5 < c.n := by rw [hn]; exact (by decide : 5 < 6)
  have p1 := run_dTurn (i := 0) D (ev_op (ev_dTurn (i := 0) (G := (S0 6 [.raw (.ref a)]).G) D n0 rfl) (ev_int (i := 1)) (rv_int (g := fun i j => i + j))) n0 rfl
  refine run_seq p1 ?_
  have D' : DrC c a la ca ({ d with turn := d.turn + 1 } : Dst).cells := D
  refine run_seq (S1 := mxS a la ca { d with turn := d.turn + 1 } (d.turn + 1) 0 none none none) (run_parVV (ev_intI (ev_dTurn (G := (S0 6 [.raw (.ref a)]).G) D' n0 rfl)) ev_int) ?_
  refine run_forQ (fun r S => ∃ gs f e3 e4 e5, r = (gs.map PyData.int).map Dx.d ∧ S = mxS a la ca { d with turn := d.turn + 1 } (d.turn + 1) f e3 e4 e5 ∧ (∀ g ∈ gs, 11 ≤ g ∧ g < 4294967296) ∧ mixAll (d.turn + 1) d.cells gs f = mixed d)
    (fun S => ∃ e3 e4 e5, S = mxS a la ca { d with turn := d.turn + 1 } (d.turn + 1) (mixed d) e3 e4 e5) (ei_list (ds := greats.map PyData.int) (ev_lst (ds := greats.map PyData.int) (ea_cons ev_int (ea_cons ev_int (ea_cons ev_int ea_nil))) (by decide))) ⟨greats, 0, none, none, none, rfl, rfl, by decide, rfl⟩ ?_ ?_ ?_
  · rintro x r S ⟨gs, f, e3, e4, e5, hr, rfl, hg, hgo⟩
    cases gs with
    | nil => cases hr
    | cons g gs =>
      cases hr
      obtain ⟨g1, g2⟩ := hg g (by simp)
      have gp : 0 < g := by omega
      have b0 := Int.emod_nonneg ((d.turn + 1) * 48271 + g / 11) (show g ≠ 0 by omega)
      have b1 := Int.emod_lt_of_pos ((d.turn + 1) * 48271 + g / 11) gp
      have v1 : ∀ {e3 e4 e5 : Option En} {f : Int}, EvS c (mxS a la ca { d with turn := d.turn + 1 } (d.turn + 1) f e3 e4 e5) (tVar 1) (.d (.int (d.turn + 1))) (mxS a la ca { d with turn := d.turn + 1 } (d.turn + 1) f e3 e4 e5) := ev_var n1 rfl
      have v3 : ∀ {e4 e5 : Option En} {f : Int}, EvS c (mxS a la ca { d with turn := d.turn + 1 } (d.turn + 1) f (some (.x (.d (.int g)))) e4 e5) (tVar 3) (.d (.int g)) (mxS a la ca { d with turn := d.turn + 1 } (d.turn + 1) f (some (.x (.d (.int g)))) e4 e5) := ev_var n3 rfl
      refine .step (S1 := mxS a la ca { d with turn := d.turn + 1 } (d.turn + 1) f (some (.x (.d (.int g)))) e4 e5) (S2 := mxS a la ca { d with turn := d.turn + 1 } (d.turn + 1) (mixOne (d.turn + 1) d.cells f g) (some (.x (.d (.int g)))) (some (.x (.d (.int (mixIn (d.turn + 1) g d.cells (((d.turn + 1) * 48271 + g / 11) % g)))))) (lastC d.cells e5)) asg_name ?_ ⟨gs, _, _, _, _, rfl, rfl, fun g' hg' => hg g' (by simp [hg']), hgo⟩
      refine run_seq (S1 := mxS a la ca { d with turn := d.turn + 1 } (d.turn + 1) f (some (.x (.d (.int g)))) (some (.x (.d (.int (((d.turn + 1) * 48271 + g / 11) % g))))) e5) (run_set (i := 4) (ev_op (ev_op (ev_op v1 ev_int (rv_intC (g := fun i j => i * j) (.inr (by decide)))) (ev_op v3 ev_int (rv_intC (g := fun i j => i / j) (by unfold CDiv; decide))) (rv_int (g := fun i j => i + j))) v3 (rv_intC (g := fun i j => i % j) gp))) ?_
      obtain ⟨b, hb⟩ : ∃ b, b = ((d.turn + 1) * 48271 + g / 11) % g := ⟨_, rfl⟩
      have emx : mixOne (d.turn + 1) d.cells f g = f * 2147483659 + (mixIn (d.turn + 1) g d.cells b) ^ 5 % g := by
        unfold mixOne
        rw [← hb]
      rw [emx]
      rw [← hb] at b0 b1 ⊢
      have dc : EvS c (mxS a la ca { d with turn := d.turn + 1 } (d.turn + 1) f (some (.x (.d (.int g)))) (some (.x (.d (.int b)))) e5) (tDGet (tVar 0) (tC (.str "cells"))) (.d (.list (d.cells.map .int))) (mxS a la ca { d with turn := d.turn + 1 } (d.turn + 1) f (some (.x (.d (.int g)))) (some (.x (.d (.int b)))) e5) := ev_dCells D' n0 rfl
      have mr := mixIn_rng (t := d.turn + 1) gp d.cells b b0 b1
      refine run_forQ (fun r S => ∃ cs b2 e5', r = (cs.map PyData.int).map Dx.d ∧ S = mxS a la ca { d with turn := d.turn + 1 } (d.turn + 1) f (some (.x (.d (.int g)))) (some (.x (.d (.int b2)))) e5' ∧ mixIn (d.turn + 1) g cs b2 = mixIn (d.turn + 1) g d.cells b ∧ lastC cs e5' = lastC d.cells e5)
        (fun S => S = mxS a la ca { d with turn := d.turn + 1 } (d.turn + 1) f (some (.x (.d (.int g)))) (some (.x (.d (.int (mixIn (d.turn + 1) g d.cells b))))) (lastC d.cells e5)) (ei_list dc) ⟨d.cells, b, e5, rfl, rfl, rfl, rfl⟩ ?_ ?_ ?_
      · rintro x r S ⟨cs, b', e5', hr, rfl, hm, hl⟩
        cases cs with
        | nil => cases hr
        | cons x cs =>
          cases hr
          refine .step (S1 := mxS a la ca { d with turn := d.turn + 1 } (d.turn + 1) f (some (.x (.d (.int g)))) (some (.x (.d (.int b')))) (some (.x (.d (.int x))))) asg_name (run_set (i := 4) (ev_op (ev_op (ev_op (ev_op (ev_var n4 rfl) ev_int (rv_intC (g := fun i j => i * j) (.inr (by decide)))) (ev_intI (ev_var n5 rfl)) (rv_int (g := fun i j => i + j))) v1 (rv_int (g := fun i j => i + j))) v3 (rv_intC (g := fun i j => i % j) gp))) ⟨cs, _, _, rfl, rfl, hm, hl⟩
      · rintro S ⟨cs, b', e5', hr, rfl, hm, hl⟩
        cases cs with
        | nil =>
          rw [← hm, ← hl]
          rfl
        | cons _ _ => cases hr
      · rintro S rfl
        refine run_set (i := 2) (ev_op (ev_op (ev_var n2 rfl) (ev_int (i := 2147483659)) (rv_intC (C := CMul) (g := fun i j => i * j) (.inr (by decide)))) (ev_op (ev_op (ev_var n4 rfl) (ev_int (i := 5)) (rv_intC (C := CPow) (g := fun i j => i ^ j.toNat) ?_)) v3 (rv_intC (C := fun _ j => 0 < j) (g := fun i j => i % j) gp)) (rv_int (g := fun i j => i + j)))
        unfold CPow
        refine ⟨by decide, by decide, ?_⟩
        have : mixIn (d.turn + 1) g d.cells b < 4294967296 := by omega
        omega
  · rintro S ⟨gs, f, e3, e4, e5, hr, rfl, hg, hgo⟩
    cases gs with
    | nil => exact ⟨e3, e4, e5, by rw [← hgo]; rfl⟩
    | cons _ _ => cases hr
  · rintro S ⟨e3, e4, e5, rfl⟩
    exact run_ret (ev_var n2 rfl)

/-- a draw is there -/
def refill (d : Dst) : Dst := if d.rest = 0 then (if d.large = [] then { d with turn := d.turn + 1, rest := mixed d } else { d with large := d.large.tail, rest := d.large.headD 0 }) else d
def takeV (d : Dst) (n : Int) : Int := (refill d).rest % n
def takeS (d : Dst) (n : Int) : Dst := { refill d with rest := (refill d).rest / n }
theorem refill_cells (d : Dst) : (refill d).cells = d.cells := by
  unfold refill
  split
  · split <;> rfl
  · rfl
theorem takeS_cells (d : Dst) (n : Int) : (takeS d n).cells = d.cells := refill_cells d
theorem takeV_rng (d : Dst) {n : Int} (h : 0 < n) : 0 ≤ takeV d n ∧ takeV d n < n := ⟨Int.emod_nonneg _ (by omega), Int.emod_lt_of_pos _ h⟩
def mTA (d : Dst) (xs : List Dx) (z : Dx) (d' : Dst) : Prop := ∃ n : Int, xs = [.d (.int n)] ∧ 0 < n ∧ n < 1073741824 ∧ z = .d (.int (takeV d n)) ∧ d' = takeS d n
theorem ok_ta {f : Addr} {fd : FuncData} (F : Fun K "_law_take" "_law_take" sTA f fd) (M : MT P w K mg base C) (h__law_mixed : Cal P w K mg base "_law_mixed" 2 ["draw"] (spD K C mMX)) : FnOk P w K mg base (L2.CX P w) 3 f fd ["draw", "amount"] (spD K C mTA) := by
  refine fn_okD F scTA (fun d xs z d' ⟨_, h, _⟩ => by rw [h]; rfl) fun cdv A outer s H E hr a la ca d xs z d' ⟨n, h1, hn1, hn2, h2, h3⟩ => ?_
  subst h1 h2 h3
  have hr1 : Room 2 _ := hr
  refine ⟨_, (pss_cons (ps_if (pt_cmpR op_eq (pe_dget (u1 hr1) (pv 0) pe_str (fun _ _ => rfl)) pe_int (nomark _)) (pss_one (ps_dput (u1 hr1) (pv 0) pe_str (pe_ifExp (pt_cmpR (op_neD hr1.units) (pe_dget (u1 hr1) (pv 0) pe_str (fun _ _ => rfl)) (pe_lst pa_nil) (nomark _)) (pe_bm PySem.F.plainAttrs_list PySem.F.slot_list_pop PySem.F.type_list_pop mt_popAt (pe_dget (u1 hr1) (pv 0) pe_str (fun _ _ => rfl)) (pa_cons pe_int pa_nil)) (pe_cal h__law_mixed hr1 pxE (pa_cons (pv 0) pa_nil))) rfl)) pss_nil)
      (pss_cons (ps_set (i := 2) scTA.nd rfl (.inl rfl) (pe_op op_mod (pe_callTy call_intOf (by rfl) (M.B "int" (by decide)) (by decide +kernel) (pa_cons (pe_dget (u1 hr1) (pv 0) pe_str (fun _ _ => rfl)) pa_nil)) (pv 1)))
      (pss_cons (ps_dput (u1 hr1) (pv 0) pe_str (pe_op op_fdiv (pe_callTy call_intOf (by rfl) (M.B "int" (by decide)) (by decide +kernel) (pa_cons (pe_dget (u1 hr1) (pv 0) pe_str (fun _ _ => rfl)) pa_nil)) (pv 1)) rfl)
      (pss_one (ps_ret (pv 2)))))), fun c hK hC hn D => ?_⟩
  subst hK hC
  have n0 : 0 < c.n := by rw [hn]; exact (by decide : 0 < 3)
  have n1 : 1 < c.n := by rw [hn]; exact (by decide : 1 < 3)
  have n2 : 2 < c.n := by rw [hn]; exact (by decide : 2 < 3)
  have G0 : (S0 3 [.raw (.ref a), .d (.int n)]).G[0]? = some (some (.x (.raw (.ref a)))) := rfl
  have D2 : DrC c a la ca (refill d).cells := by rw [refill_cells]; exact D
  have t1 := eb_test (ev_op (ev_dRest (G := (S0 3 [.raw (.ref a), .d (.int n)]).G) D n0 G0) (ev_int (i := 0)) rv_eqI)
  have p1 : RunS c ⟨Drw a la ca d, (S0 3 [.raw (.ref a), .d (.int n)]).G⟩ (tIfS (tTest (tOp rEq (tDGet (tVar 0) (tC (.str "rest"))) (tC (.int 0)))) (sDPut (tVar 0) (tC (.str "rest")) (tIf (tTest (tOp (rNeD c.K) (tDGet (tVar 0) (tC (.str "large"))) (tLst tNil))) (tBM c.K "list" rPopAt (tDGet (tVar 0) (tC (.str "large"))) (tCons (tC (.int 0)) tNil)) (tCall (spD c.K c.C mMX) [] E (tCons (tVar 0) tNil)))) tNext) (.nx ⟨Drw a la ca (refill d), (S0 3 [.raw (.ref a), .d (.int n)]).G⟩) := by
    unfold refill
    by_cases h0 : d.rest = 0
    · rw [if_pos h0]
      refine run_ifT (eb_is t1 (decide_eq_true h0)) ?_
      have t2 := eb_test (ev_neLarge (G := (S0 3 [.raw (.ref a), .d (.int n)]).G) D n0 G0)
      by_cases hl : d.large = []
      · rw [if_pos hl]
        exact run_dRest (d := { d with turn := d.turn + 1 }) D (ev_ifF (eb_is t2 (by rw [hl]; rfl)) (ev_callD (m := mMX) (z := .d (.int (mixed d))) (d' := { d with turn := d.turn + 1 }) D (ea_cons (ev_var n0 G0) ea_nil) ⟨rfl, rfl, rfl⟩)) n0 G0
      · rw [if_neg hl]
        obtain ⟨x, r, hxr⟩ : ∃ x r, d.large = x :: r := by
          cases h : d.large with
          | nil => exact absurd h hl
          | cons x r => exact ⟨x, r, rfl⟩
        have e1 : d.large.tail = r := by rw [hxr]; rfl
        have e2 : d.large.headD 0 = x := by rw [hxr]; rfl
        rw [e1, e2]
        exact run_dRest (d := { d with large := r }) D (ev_ifT (eb_is t2 (by rw [hxr]; rfl)) (ev_popLarge D n0 G0 hxr)) n0 G0
    · rw [if_neg h0]
      exact run_ifF (eb_is t1 (decide_eq_false h0)) run_next
  refine run_seq p1 ?_
  generalize hrf : refill d = d2 at *
  refine run_seq (S1 := ⟨Drw a la ca d2, [some (.x (.raw (.ref a))), some (.x (.d (.int n))), some (.x (.d (.int (takeV d n))))]⟩) ?_ ?_
  · have q := run_set (i := 2) (ev_op (ev_intI (ev_dRest (G := (S0 3 [.raw (.ref a), .d (.int n)]).G) D2 n0 G0)) (ev_var (x := .d (.int n)) n1 rfl) (rv_intC (C := fun _ j => 0 < j) (g := fun i j => i % j) hn1))
    unfold takeV
    rw [hrf]
    exact q
  · have q := run_dRest (i := 0) (G := [some (.x (.raw (.ref a))), some (.x (.d (.int n))), some (.x (.d (.int (takeV d n))))]) D2 (ev_op (ev_intI (ev_dRest D2 n0 rfl)) (ev_var (x := .d (.int n)) n1 rfl) (rv_intC (C := CDiv) (g := fun i j => i / j) ⟨hn1, hn2⟩)) n0 rfl
    have e : takeS d n = { d2 with rest := d2.rest / n } := by
      unfold takeS
      rw [hrf]
    rw [e]
    exact run_seq q (run_ret (ev_var n2 rfl))
/-- the number of items as it is drawn -/
def pickI (d : Dst) (n : Nat) : Nat := (takeV d (n : Int)).toNat
theorem pickI_lt (d : Dst) {n : Nat} (h : 0 < n) : pickI d n < n := by
  have := takeV_rng d (n := (n : Int)) (by omega)
  unfold pickI
  omega
theorem pickI_eq (d : Dst) {n : Nat} (h : 0 < n) : takeV d (n : Int) = (pickI d n : Int) := by
  have := takeV_rng d (n := (n : Int)) (by omega)
  unfold pickI
  omega
def mPK (d : Dst) (xs : List Dx) (z : Dx) (d' : Dst) : Prop := ∃ ds e, (xs = [.d (.list ds)] ∨ xs = [.d (.tuple ds)]) ∧ 0 < ds.length ∧ ds.length ≤ 1000 ∧ ds[pickI d ds.length]? = some e ∧ z = .d e ∧ d' = takeS d (ds.length : Int)
theorem ok_pk {f : Addr} {fd : FuncData} (F : Fun K "_law_pick" "_law_pick" sPK f fd) (M : MT P w K mg base C) (h__law_take : Cal P w K mg base "_law_take" 3 ["draw", "amount"] (spD K C mTA)) : FnOk P w K mg base (L2.CX P w) 4 f fd ["draw", "some"] (spD K C mPK) := by
  refine fn_okD F scPK (fun d xs z d' ⟨_, _, h, _⟩ => by rcases h with h | h <;> rw [h] <;> rfl) fun cdv A outer s H E hr a la ca d xs z d' ⟨ds, e, h1, hp, hz, he, h2, h3⟩ => ?_
  subst h2 h3
  have hr1 : Room 3 _ := hr
  refine ⟨_, (pss_one (ps_ret (pe_ix ix_seq (pv 1) (pe_cal h__law_take hr1 pxE (pa_cons (pv 0) (pa_cons (pe_callB call_lenSq (by rfl) (M.B "len" (by decide)) boot_len (pa_cons (pv 1) pa_nil)) pa_nil))) (fun _ _ => rfl)))), fun c hK hC hn D => ?_⟩
  subst hK hC
  have n0 : 0 < c.n := by rw [hn]; exact (by decide : 0 < 2)
  have n1 : 1 < c.n := by rw [hn]; exact (by decide : 1 < 2)
  have pe := pickI_eq d hp
  rcases h1 with rfl | rfl
  · have ix : EvS c ⟨Drw a la ca d, (S0 2 [.raw (.ref a), .d (.list ds)]).G⟩ (tCall (spD c.K c.C mTA) [] E (tCons (tVar 0) (tCons (tCB (rLenSq c.K) (tCons (tVar 1) tNil)) tNil))) (.d (.int (pickI d ds.length : Int))) ⟨Drw a la ca (takeS d (ds.length : Int)), (S0 2 [.raw (.ref a), .d (.list ds)]).G⟩ :=
      ev_callD D (ea_cons (ev_var n0 rfl) (ea_cons (ev_lenL (ev_var n1 rfl)) ea_nil)) ⟨(ds.length : Int), rfl, by omega, by omega, by rw [pe], rfl⟩
    exact run_ret (ev_op (ev_var n1 rfl) ix (rv_il (pickI d ds.length) he))
  · have ix : EvS c ⟨Drw a la ca d, (S0 2 [.raw (.ref a), .d (.tuple ds)]).G⟩ (tCall (spD c.K c.C mTA) [] E (tCons (tVar 0) (tCons (tCB (rLenSq c.K) (tCons (tVar 1) tNil)) tNil))) (.d (.int (pickI d ds.length : Int))) ⟨Drw a la ca (takeS d (ds.length : Int)), (S0 2 [.raw (.ref a), .d (.tuple ds)]).G⟩ :=
      ev_callD D (ea_cons (ev_var n0 rfl) (ea_cons (ev_lenT (ev_var n1 rfl)) ea_nil)) ⟨(ds.length : Int), rfl, by omega, by omega, by rw [pe], rfl⟩
    exact run_ret (ev_op (ev_var n1 rfl) ix (rv_it (pickI d ds.length) he))
/-- shuffled: what comes out, the draws behind -/
def shuf : Nat → Dst → List PyData → List PyData × Dst
  | 0, d, _ => ([], d)
  | n + 1, d, l => let k := pickI d l.length
    let r := shuf n (takeS d (l.length : Int)) (l.eraseIdx k)
    (l.getD k .none :: r.1, r.2)
theorem perm_erase : ∀ (l : List PyData) (k : Nat) (h : k < l.length), (l[k] :: l.eraseIdx k).Perm l
  | x :: r, 0, _ => .refl _
  | x :: r, k + 1, h => by
    have hk' : k < r.length := Nat.lt_of_succ_lt_succ h
    have ih := perm_erase r k hk'
    show (r[k] :: x :: r.eraseIdx k).Perm (x :: r)
    exact (List.Perm.swap x r[k] _).trans (ih.cons x)
theorem shuf_perm : ∀ (n : Nat) (d : Dst) (l : List PyData), l.length = n → (shuf n d l).1.Perm l
  | 0, d, l, h => by
    rw [List.eq_nil_of_length_eq_zero h]
    exact .refl _
  | n + 1, d, l, h => by
    have hk := pickI_lt d (n := l.length) (by omega)
    have ih := shuf_perm n (takeS d (l.length : Int)) (l.eraseIdx (pickI d l.length)) (by rw [List.length_eraseIdx]; split <;> omega)
    have e : l.getD (pickI d l.length) .none = l[pickI d l.length] := by rw [List.getD_eq_getElem?_getD, List.getElem?_eq_getElem hk]; rfl
    show (l.getD (pickI d l.length) .none :: (shuf n (takeS d (l.length : Int)) (l.eraseIdx (pickI d l.length))).1).Perm l
    rw [e]
    exact (ih.cons _).trans (perm_erase l _ hk)
theorem shuf_cells : ∀ (n : Nat) (d : Dst) (l : List PyData), (shuf n d l).2.cells = d.cells
  | 0, _, _ => rfl
  | n + 1, d, l => by
    show (shuf n (takeS d (l.length : Int)) (l.eraseIdx (pickI d l.length))).2.cells = _
    rw [shuf_cells n, takeS_cells]
def shS (a la ca : Addr) (d : Dst) (some_ : PyData) (left fnd : List PyData) : Stt := ⟨Drw a la ca d, [some (.x (.raw (.ref a))), some (.x (.d some_)), some (.own left), some (.own fnd)]⟩
def mSH (d : Dst) (xs : List Dx) (z : Dx) (d' : Dst) : Prop := ∃ ds, xs = [.d (.list ds)] ∧ (∀ x ∈ ds, Sd 10 x) ∧ ds.length ≤ 1000 ∧ z = .d (.list (shuf ds.length d ds).1) ∧ d' = (shuf ds.length d ds).2
theorem ok_sh {f : Addr} {fd : FuncData} (F : Fun K "_law_shuffled" "_law_shuffled" sSH f fd) (M : MT P w K mg base C) (h__law_take : Cal P w K mg base "_law_take" 3 ["draw", "amount"] (spD K C mTA)) : FnOk P w K mg base (L2.CX P w) 4 f fd ["draw", "some"] (spD K C mSH) := by
  refine fn_okD F scSH (fun d xs z d' ⟨_, h, _⟩ => by rw [h]; rfl) fun cdv A outer s H E hr a la ca d xs z d' ⟨ds, h1, hsd, hz, h2, h3⟩ => ?_
  subst h1 h2 h3
  have hr1 : Room 3 _ := hr
  refine ⟨_, (pss_cons (ps_par (i := 2) (j := 3) rfl scSH.nd rfl rfl (by decide) rfl rfl (pa_cons (pe_callTy call_lstOf (by rfl) (M.B "list" (by decide)) (by decide +kernel) (pa_cons (pv 1) pa_nil)) (pa_cons (pe_lst pa_nil) pa_nil)) rfl)
      (pss_cons (ps_while pown (pt_cmpR (op_neD hr1.units) (pv 2) (pe_lst pa_nil) (nomark _)) (pss_one (ps_expr (pe_bm PySem.F.plainAttrs_list PySem.F.slot_list_append PySem.F.type_list_append mt_append (pv 3) (pa_cons (pe_bm PySem.F.plainAttrs_list PySem.F.slot_list_pop PySem.F.type_list_pop mt_popAt (pv 2) (pa_cons (pe_cal h__law_take hr1 pxE (pa_cons (pv 0) (pa_cons (pe_callB call_lenSq (by rfl) (M.B "len" (by decide)) boot_len (pa_cons (pv 2) pa_nil)) pa_nil))) pa_nil)) pa_nil)))))
      (pss_one (ps_ret (pv 3))))), fun c hK hC hn D => ?_⟩
  subst hK hC
  have n0 : 0 < c.n := by rw [hn]; exact (by decide : 0 < 4)
  have n1 : 1 < c.n := by rw [hn]; exact (by decide : 1 < 4)
  have n2 : 2 < c.n := by rw [hn]; exact (by decide : 2 < 4)
  have n3 : 3 < c.n := by rw [hn]; exact (by decide : 3 < 4)
  refine run_seq (S1 := shS a la ca d (.list ds) ds []) (run_parOO (S1 := ⟨Drw a la ca d, (S0 4 [.raw (.ref a), .d (.list ds)]).G⟩) (eo_lstL (ev_var n1 rfl)) (eo_lst (ds := []) ea_nil (Nat.zero_le _)) n2 n3 (by decide) (by rw [hn]; exact Nat.le_refl 4)) ?_
  refine run_whileQ (n := ds.length) (fun n S => ∃ d2 l acc, S = shS a la ca d2 (.list ds) l acc ∧ n = l.length ∧ l.length + acc.length = ds.length ∧ (∀ x ∈ l, Sd 10 x) ∧ d2.cells = d.cells ∧ acc ++ (shuf n d2 l).1 = (shuf ds.length d ds).1 ∧ (shuf n d2 l).2 = (shuf ds.length d ds).2)
    (fun S => S = shS a la ca (shuf ds.length d ds).2 (.list ds) [] (shuf ds.length d ds).1) ⟨d, ds, [], rfl, rfl, rfl, hsd, rfl, rfl, rfl⟩ ?_ fun S hS => by rw [hS]; exact run_retO n3 rfl
  rintro n S ⟨d2, l, acc, rfl, rfl, hla, hl, hc, hg1, hg2⟩
  have D2 : DrC c a la ca d2.cells := by rw [hc]; exact D
  have ht : EvB c (shS a la ca d2 (.list ds) l acc) (tTest (tOp (rNeD c.K) (tVar 2) (tLst tNil))) (!l.isEmpty) (shS a la ca d2 (.list ds) l acc) := by
    have q := ev_neO (S := shS a la ca d2 (.list ds) l acc) (i := 2) (ds := l) (es := []) n2 rfl (ev_lst (ds := []) ea_nil (by decide)) ((Sd.lst (k := 10) hl).shaped (by decide)) (by decide +kernel)
    rw [eqv_nil] at q
    exact eb_test q
  cases l with
  | nil =>
    refine .done ht ?_
    rw [← hg1, ← hg2]
    show _ = shS a la ca d2 (.list ds) [] (acc ++ [])
    rw [List.append_nil]
  | cons x r =>
    have hk := pickI_lt d2 (n := (x :: r).length) (Nat.succ_pos _)
    have pe := pickI_eq d2 (n := (x :: r).length) (Nat.succ_pos _)
    obtain ⟨e, he⟩ : ∃ e, (x :: r)[pickI d2 (x :: r).length]? = some e := ⟨_, List.getElem?_eq_getElem hk⟩
    have hge : (x :: r).getD (pickI d2 (x :: r).length) .none = e := by rw [List.getD_eq_getElem?_getD, he]; rfl
    have hlen : (x :: r).length = r.length + 1 := rfl
    have ix : EvS c (shS a la ca d2 (.list ds) (x :: r) acc) (tCall (spD c.K c.C mTA) [] E (tCons (tVar 0) (tCons (tCB (rLenSq c.K) (tCons (tVar 2) tNil)) tNil))) (.d (.int (pickI d2 (x :: r).length : Int))) (shS a la ca (takeS d2 ((x :: r).length : Int)) (.list ds) (x :: r) acc) :=
      ev_callD D2 (ea_cons (ev_var n0 rfl) (ea_cons (ev_lenO n2 rfl) ea_nil)) ⟨((x :: r).length : Int), rfl, by omega, by omega, by rw [pe], rfl⟩
    have pp : EvS c (shS a la ca d2 (.list ds) (x :: r) acc) _ (.d e) (shS a la ca (takeS d2 ((x :: r).length : Int)) (.list ds) ((x :: r).eraseIdx (pickI d2 (x :: r).length)) acc) := ev_popAt (i := 2) n2 rfl ix rfl he (by omega)
    have ap := ev_app (i := 3) n3 rfl pp (ds1 := acc) rfl (by omega)
    have hle : ((x :: r).eraseIdx (pickI d2 (x :: r).length)).length = r.length := by rw [List.length_eraseIdx, if_pos hk]; rfl
    have hsh : shuf (x :: r).length d2 (x :: r) = (e :: (shuf r.length (takeS d2 ((x :: r).length : Int)) ((x :: r).eraseIdx (pickI d2 (x :: r).length))).1, (shuf r.length (takeS d2 ((x :: r).length : Int)) ((x :: r).eraseIdx (pickI d2 (x :: r).length))).2) := by
      rw [hlen, shuf, ← hlen, hge]
    rw [hsh] at hg1 hg2
    refine .step r.length ht (run_drop ap) (by omega) ⟨_, _, _, rfl, hle.symm, ?_, fun y hy => hl y (List.mem_of_mem_eraseIdx hy), (takeS_cells _ _).trans hc, ?_, hg2⟩
    · rw [hle, List.length_append, List.length_singleton]
      omega
    · rw [List.append_assoc]
      exact hg1
end
end K2

/-! K2s -/
set_option Elab.async false
set_option linter.all false
set_option autoImplicit false
set_option maxRecDepth 100000
set_option maxHeartbeats 4000000
namespace Tk
open PySem PySem.Spec PyProof.Rows L2
section
variable {c : Cn} {S S1 S2 S3 : Stt} {te : TE}
/-- l[a:b] -/
theorem ev_slL {tlo thi : TO} {ds : List PyData} {lo hi : Option Int} (h : EvS c S te (.d (.list ds)) S1) (h1 : EvP c S1 tlo lo S2) (h2 : EvP c S2 thi hi S3) : EvS c S (tSl (rSlL c.K) te tlo thi) (.d (.list (cutD ds lo hi))) S3 := fun A σ H L Q q =>
  h A σ H L _ fun v H1 L1 e1 r1 => h1 A σ H1 L1 _ fun H2 L2 e2 => h2 A σ H2 L2 _ fun H3 L3 e3 => by
    have r3 := Dt.mono (e2.trans e3) r1
    obtain ⟨a, vs, rfl, hs, hd⟩ := Dt.lst_inv r3
    refine ⟨a, vs, rfl, .inl (.inl (hidP_le _ _ hs)), fun p hp => ?_⟩
    obtain ⟨L4, e4⟩ := L3.grow (same_new (o := .lst (cutV vs lo hi)) hp)
    refine q _ _ L4 (((e1.trans e2).trans e3).trans e4) (Dt.lst ?_ ((hd.cut lo hi).mono e4))
    show hidP _ _ p = _
    rw [hidP_neg (L3.new hp), upd_same]
end
end Tk
namespace K2
open PySem PySem.Spec PyProof.Rows L2 Tk
abbrev sTO : Stmt := topS 45
theorem scTO : FnScope ["draw", "most", "words", "many"] ["draw", "most"] (defScope sTO) := ⟨rfl, rfl, rfl, by decide +kernel, rfl, by decide +kernel, by decide +kernel⟩
abbrev sSP : Stmt := topS 46
theorem scSP : FnScope ["draw", "told", "deep", "way"] ["draw", "told", "deep"] (defScope sSP) := ⟨rfl, rfl, rfl, by decide +kernel, rfl, by decide +kernel, by decide +kernel⟩

def W14 : List Str := ["dog", "pet", "tail", "has", "of", "a", "b", "zz", "are", "goes", "is", "kind", "abcdefgh", "x"]
def strOf : PyData → Str
  | .str s => s
  | _ => ""
def wsOf (d : Dst) : List Str := (shuf 14 d (W14.map .str)).1.map strOf
theorem wsOf_eq (d : Dst) : (shuf 14 d (W14.map .str)).1 = (wsOf d).map .str := by
  unfold wsOf
  rw [List.map_map]
  refine (List.map_id _).symm.trans (List.map_congr_left fun x hx => ?_)
  have hm := (shuf_perm 14 d (W14.map .str) rfl).mem_iff.mp hx
  obtain ⟨s, _, rfl⟩ := List.mem_map.mp hm
  rfl
theorem wsOf_perm (d : Dst) : (wsOf d).Perm W14 := by
  have h := (shuf_perm 14 d (W14.map .str) rfl).map strOf
  rw [List.map_map] at h
  have e : W14.map (strOf ∘ PyData.str) = W14 := List.map_id'' (fun _ => rfl) _
  rw [e] at h
  exact h
def pwB (k : Str) : Bool := decide (1 ≤ k.length) && decide (k.length ≤ 8) && (cl k).all (fun c => decide (97 ≤ c ∧ c ≤ 122)) && decide (k ∉ (["any", "none", "both", "tied"] : List Str))
theorem pwB_ok {k : Str} (h : pwB k = true) : Pw k := by
  unfold pwB at h
  simp only [Bool.and_eq_true, decide_eq_true_eq, List.all_eq_true] at h
  exact ⟨h.1.1.1, h.1.1.2, h.1.2, h.2⟩
theorem w14_ok : ∀ k ∈ W14, Pw k := fun k hk => pwB_ok (List.all_eq_true.mp (by decide +kernel : W14.all pwB = true) k hk)
theorem w14_nodup : W14.Nodup := by decide +kernel
/-- what is told: kinds, ties, the draws behind -/
def t1 (d : Dst) : Dst := (shuf 14 d (W14.map .str)).2
def tM (d : Dst) : Nat := 1 + pickI (t1 d) 4
def t2 (d : Dst) : Dst := takeS (t1 d) 4
def sixs : List Nat := [0, 1, 1, 1, 2, 2]
def tJ (d : Dst) : Nat := sixs.getD (pickI (t2 d) 6) 0
def toldKs (d : Dst) : List Str := (wsOf d).take (tM d)
def toldTs (d : Dst) : List Str := ((wsOf d).drop (tM d)).take (tJ d)
def toldSt (d : Dst) : Dst := takeS (t2 d) 6
theorem tM_rng (d : Dst) : 1 ≤ tM d ∧ tM d ≤ 4 := by
  have := pickI_lt (t1 d) (n := 4) (by decide)
  unfold tM
  omega
theorem tJ_rng (d : Dst) : tJ d ≤ 2 := by
  unfold tJ
  have h : ∀ k, sixs.getD k 0 ≤ 2 := fun k => by
    match k with
    | 0 | 1 | 2 | 3 | 4 | 5 => decide
    | k + 6 => exact Nat.zero_le _
  exact h _
theorem ws_len (d : Dst) : (wsOf d).length = 14 := (wsOf_perm d).length_eq
theorem told_good (d : Dst) : GoodW (toldKs d) (toldTs d) := by
  have hp := wsOf_perm d
  have hn : (wsOf d).Nodup := hp.nodup_iff.mpr w14_nodup
  have hm : ∀ k ∈ wsOf d, Pw k := fun k hk => w14_ok k (hp.mem_iff.mp hk)
  have m := tM_rng d
  have j := tJ_rng d
  refine ⟨fun k hk => hm k (List.mem_of_mem_take hk), hn.sublist (List.take_sublist _ _), ?_, fun k hk => hm k (List.mem_of_mem_drop (List.mem_of_mem_take hk)), hn.sublist ((List.take_sublist _ _).trans (List.drop_sublist _ _)), ?_, fun k hk hk2 => ?_⟩
  · unfold toldKs
    rw [List.length_take]
    omega
  · unfold toldTs
    rw [List.length_take]
    omega
  · have h1 : k ∈ (wsOf d).drop (tM d) := List.mem_of_mem_take hk
    have h2 : k ∈ (wsOf d).take (tM d) := hk2
    have e := List.take_append_drop (tM d) (wsOf d)
    rw [← e] at hn
    exact (List.nodup_append.mp hn).2.2 k h2 k h1 rfl
theorem told_ne (d : Dst) : toldKs d ≠ [] := fun h => by
  have := congrArg List.length h
  unfold toldKs at this
  rw [List.length_take, ws_len] at this
  have m := tM_rng d
  simp at this
  omega
theorem told_cells (d : Dst) : (toldSt d).cells = d.cells := by
  unfold toldSt t2 t1
  rw [takeS_cells, takeS_cells, shuf_cells]
theorem cut_take (ds : List PyData) (j : Nat) : cutD ds none (some (j : Int)) = ds.take j := by
  unfold Tk.cutD
  rw [sIx_some, HT.sIx_none, List.drop_zero, Nat.sub_zero]
  by_cases h : j ≤ ds.length
  · rw [Nat.min_eq_left h]
  · rw [Nat.min_eq_right (by omega), List.take_of_length_le (Nat.le_refl _), List.take_of_length_le (by omega)]
theorem cut_seg (ds : List PyData) (i j : Nat) : cutD ds (some (i : Int)) (some ((i + j : Nat) : Int)) = (ds.drop i).take j := by
  unfold Tk.cutD
  rw [sIx_some, sIx_some]
  by_cases h : i ≤ ds.length
  · rw [Nat.min_eq_left h]
    by_cases h2 : i + j ≤ ds.length
    · rw [Nat.min_eq_left h2, Nat.add_sub_cancel_left]
    · rw [Nat.min_eq_right (by omega), List.take_of_length_le (by rw [List.length_drop]; exact Nat.le_refl _), List.take_of_length_le (by rw [List.length_drop]; omega)]
  · rw [Nat.min_eq_right (show ds.length ≤ i by omega), Nat.min_eq_right (show ds.length ≤ i + j by omega), List.drop_eq_nil_of_le (Nat.le_refl _), List.drop_eq_nil_of_le (show ds.length ≤ i by omega)]
    simp
section
variable {P : Program} {w : World} {K : PySem.W.Frag} {mg : Str → Option Value} {base : Heap} {C : Addr}

def mTO (d : Dst) (xs : List Dx) (z : Dx) (d' : Dst) : Prop := xs = [.d (.int 4)] ∧ z = .d (toldD (toldKs d) (toldTs d)) ∧ d' = toldSt d
theorem ok_to {f : Addr} {fd : FuncData} (F : Fun K "_law_told" "_law_told" sTO f fd) (M : MT P w K mg base C) (h__law_shuffled : Cal P w K mg base "_law_shuffled" 4 ["draw", "some"] (spD K C mSH)) (h__law_take : Cal P w K mg base "_law_take" 4 ["draw", "amount"] (spD K C mTA)) (h__law_pick : Cal P w K mg base "_law_pick" 4 ["draw", "some"] (spD K C mPK)) :
    FnOk P w K mg base (L2.CX P w) 5 f fd ["draw", "most"] (spD K C mTO) := by
  refine fn_okD F scTO (fun d xs z d' ⟨h, _⟩ => by rw [h]; rfl) fun cdv A outer s H E hr a la ca d xs z d' ⟨h1, h2, h3⟩ => ?_
  subst h1 h2 h3
  have hr1 : Room 4 _ := hr
  refine ⟨_, (pss_cons (ps_set (i := 2) scTO.nd rfl (.inl rfl) (pe_cal h__law_shuffled hr1 pxE (pa_cons (pv 0) (pa_cons (pe_lst (pa_cons pe_str (pa_cons pe_str (pa_cons pe_str (pa_cons pe_str (pa_cons pe_str (pa_cons pe_str (pa_cons pe_str (pa_cons pe_str (pa_cons pe_str (pa_cons pe_str (pa_cons pe_str (pa_cons pe_str (pa_cons pe_str (pa_cons pe_str pa_nil))))))))))))))) pa_nil))))
      (pss_cons (ps_set (i := 3) scTO.nd rfl (.inl rfl) (pe_op op_add pe_int (pe_cal h__law_take hr1 pxE (pa_cons (pv 0) (pa_cons (pv 1) pa_nil)))))
      (pss_one (ps_ret (pe_tup (pa_cons (pe_callTy call_tupOf (by rfl) (M.B "tuple" (by decide)) (by decide +kernel) (pa_cons (pe_slice sl_list (pv 2) po_none (po_some (pv 3))) pa_nil)) (pa_cons (pe_callTy call_tupOf (by rfl) (M.B "tuple" (by decide)) (by decide +kernel) (pa_cons (pe_slice sl_list (pv 2) (po_some (pv 3)) (po_some (pe_op op_add (pv 3) (pe_cal h__law_pick hr1 pxE (pa_cons (pv 0) (pa_cons (pe_lst (pa_cons pe_int (pa_cons pe_int (pa_cons pe_int (pa_cons pe_int (pa_cons pe_int (pa_cons pe_int pa_nil))))))) pa_nil)))))) pa_nil)) pa_nil))))))), fun c hK hC hn D => ?_⟩
  subst hK hC
  have n0 : 0 < c.n := by rw [hn]; exact (by decide : 0 < 4)
  have n1 : 1 < c.n := by rw [hn]; exact (by decide : 1 < 4)
  have n2 : 2 < c.n := by rw [hn]; exact (by decide : 2 < 4)
  have n3 : 3 < c.n := by rw [hn]; exact (by decide : 3 < 4)
  have D1 : DrC c a la ca (t1 d).cells := by unfold t1; rw [shuf_cells]; exact D
  have D2 : DrC c a la ca (t2 d).cells := by unfold t2; rw [takeS_cells]; exact D1
  have mr := tM_rng d
  have jr := tJ_rng d
  have el : EvS c ⟨Drw a la ca d, (S0 4 [.raw (.ref a), .d (.int 4)]).G⟩ _ (.d (.list (W14.map .str))) ⟨Drw a la ca d, (S0 4 [.raw (.ref a), .d (.int 4)]).G⟩ :=
    ev_lst (ds := W14.map .str) (ea_cons ev_str (ea_cons ev_str (ea_cons ev_str (ea_cons ev_str (ea_cons ev_str (ea_cons ev_str (ea_cons ev_str (ea_cons ev_str (ea_cons ev_str (ea_cons ev_str (ea_cons ev_str (ea_cons ev_str (ea_cons ev_str (ea_cons ev_str ea_nil)))))))))))))) (by decide)
  have sdw : ∀ x ∈ W14.map PyData.str, Sd 10 x := fun x hx => by
    obtain ⟨s, hs, rfl⟩ := List.mem_map.mp hx
    exact .str (pw_ok (w14_ok s hs))
  have es := ev_callD (m := mSH) (E := E) (z := .d (.list ((wsOf d).map .str))) (d' := t1 d) D (ea_cons (ev_var n0 rfl) (ea_cons el ea_nil)) ⟨W14.map .str, rfl, sdw, by decide, by rw [← wsOf_eq]; rfl, rfl⟩
  refine run_seq (S1 := ⟨Drw a la ca (t1 d), [some (.x (.raw (.ref a))), some (.x (.d (.int 4))), some (.x (.d (.list ((wsOf d).map .str)))), none]⟩) (run_set (i := 2) es) ?_
  have et := ev_callD (m := mTA) (E := E) (z := .d (.int (pickI (t1 d) 4 : Int))) (d' := t2 d) D1 (ea_cons (ev_var (c := c) (S := ⟨Drw a la ca (t1 d), [some (.x (.raw (.ref a))), some (.x (.d (.int 4))), some (.x (.d (.list ((wsOf d).map .str)))), none]⟩) (x := .raw (.ref a)) n0 rfl) (ea_cons (ev_var n1 rfl) ea_nil)) ⟨4, rfl, by decide, by decide, by rw [← pickI_eq (t1 d) (n := 4) (by decide)]; rfl, rfl⟩
  refine run_seq (S1 := ⟨Drw a la ca (t2 d), [some (.x (.raw (.ref a))), some (.x (.d (.int 4))), some (.x (.d (.list ((wsOf d).map .str)))), some (.x (.d (.int (tM d : Int))))]⟩) ?_ ?_
  · have q := run_set (i := 3) (ev_op (ev_int (i := 1)) et (rv_int (g := fun i j => i + j)))
    have e : (1 : Int) + (pickI (t1 d) 4 : Int) = (tM d : Int) := by unfold tM; omega
    rw [e] at q
    exact q
  have e6 : EvS c ⟨Drw a la ca (t2 d), [some (.x (.raw (.ref a))), some (.x (.d (.int 4))), some (.x (.d (.list ((wsOf d).map .str)))), some (.x (.d (.int (tM d : Int))))]⟩ _ (.d (.list (sixs.map fun k : Nat => PyData.int (k : Int)))) _ :=
    ev_lst (ds := sixs.map fun k : Nat => PyData.int (k : Int)) (ea_cons ev_int (ea_cons ev_int (ea_cons ev_int (ea_cons ev_int (ea_cons ev_int (ea_cons ev_int ea_nil)))))) (by decide)
  have h6 := pickI_lt (t2 d) (n := 6) (by decide)
  have ep := ev_callD (m := mPK) (E := E) (z := .d (.int (tJ d : Int))) (d' := toldSt d) D2 (ea_cons (ev_var (x := .raw (.ref a)) n0 rfl) (ea_cons e6 ea_nil)) ⟨_, .int (tJ d : Int), .inl rfl, by decide, by decide, by
    show (sixs.map fun k : Nat => PyData.int (k : Int))[pickI (t2 d) 6]? = _
    rw [List.getElem?_map]
    unfold tJ
    rw [List.getD_eq_getElem?_getD, List.getElem?_eq_getElem (show pickI (t2 d) 6 < sixs.length from h6)]
    rfl, rfl, rfl⟩
  have vw : ∀ {ds : Dst}, EvS c ⟨Drw a la ca ds, [some (.x (.raw (.ref a))), some (.x (.d (.int 4))), some (.x (.d (.list ((wsOf d).map .str)))), some (.x (.d (.int (tM d : Int))))]⟩ (tVar 2) (.d (.list ((wsOf d).map .str))) ⟨Drw a la ca ds, [some (.x (.raw (.ref a))), some (.x (.d (.int 4))), some (.x (.d (.list ((wsOf d).map .str)))), some (.x (.d (.int (tM d : Int))))]⟩ := ev_var n2 rfl
  have vm : ∀ {ds : Dst}, EvS c ⟨Drw a la ca ds, [some (.x (.raw (.ref a))), some (.x (.d (.int 4))), some (.x (.d (.list ((wsOf d).map .str)))), some (.x (.d (.int (tM d : Int))))]⟩ (tVar 3) (.d (.int (tM d : Int))) ⟨Drw a la ca ds, [some (.x (.raw (.ref a))), some (.x (.d (.int 4))), some (.x (.d (.list ((wsOf d).map .str)))), some (.x (.d (.int (tM d : Int))))]⟩ := ev_var n3 rfl
  have s1 := ev_tupL (ev_is (ev_slL (vw (ds := t2 d)) ep_none (ep_some vm)) (w := .d (.list ((toldKs d).map .str))) (by rw [cut_take]; unfold toldKs; rw [List.map_take]))
  have s2 := ev_tupL (ev_is (ev_slL (vw (ds := t2 d)) (ep_some vm) (ep_some (ev_op vm ep (rv_int (g := fun i j => i + j))))) (w := .d (.list ((toldTs d).map .str))) (by
    rw [show ((tM d : Int) + (tJ d : Int)) = ((tM d + tJ d : Nat) : Int) from rfl, cut_seg]
    unfold toldTs
    rw [List.map_take, List.map_drop]))
  exact run_ret (ev_tup (ds := [.tuple ((toldKs d).map .str), .tuple ((toldTs d).map .str)]) (ea_cons s1 (ea_cons s2 ea_nil)) (by simp))
end
end K2

/-! K2t -/
set_option Elab.async false
set_option linter.all false
set_option autoImplicit false
set_option maxRecDepth 100000
set_option maxHeartbeats 4000000
namespace K2
open PySem PySem.Spec PyProof.Rows L2 Tk
/-- the shape drawn, the draws behind -/
def shpO : Nat → Dst → List Str → List Str → Sh × Dst
  | 0, d, ks, _ => (.kind (ks.getD (pickI (takeS d 10) ks.length) ""), takeS (takeS d 10) (ks.length : Int))
  | n + 1, d, ks, ts => if takeV d 10 < 4 then (.kind (ks.getD (pickI (takeS d 10) ks.length) ""), takeS (takeS d 10) (ks.length : Int))
    else if takeV d 10 = 4 then (if pickI (takeS d 10) 3 = 2 then .none else .any, takeS (takeS d 10) 3)
    else if takeV d 10 < 7 ∨ ts = [] then (.both (shpO n (takeS d 10) ks ts).1 (shpO n (shpO n (takeS d 10) ks ts).2 ks ts).1, (shpO n (shpO n (takeS d 10) ks ts).2 ks ts).2)
    else (.tied (ts.getD (pickI (takeS d 10) ts.length) "") (shpO n (takeS (takeS d 10) (ts.length : Int)) ks ts).1, (shpO n (takeS (takeS d 10) (ts.length : Int)) ks ts).2)
theorem shpO_cells : ∀ (n : Nat) (d : Dst) (ks ts : List Str), (shpO n d ks ts).2.cells = d.cells
  | 0, d, ks, ts => by
    show (takeS (takeS d 10) (ks.length : Int)).cells = _
    rw [takeS_cells, takeS_cells]
  | n + 1, d, ks, ts => by
    unfold shpO
    split
    · rw [takeS_cells, takeS_cells]
    · split
      · rw [takeS_cells, takeS_cells]
      · split
        · rw [shpO_cells n, shpO_cells n, takeS_cells]
        · rw [shpO_cells n, takeS_cells, takeS_cells]
theorem getD_mem {l : List Str} {k : Nat} (h : k < l.length) : l.getD k "" ∈ l := by
  rw [List.getD_eq_getElem?_getD, List.getElem?_eq_getElem h]
  exact List.getElem_mem h
/-- the shapes that others lie within -/
def Sh.inner : Sh → Nat
  | .both a b => a.inner + b.inner + 1
  | .tied _ a => a.inner + 1
  | _ => 0
theorem shpO_wf : ∀ (n : Nat) (d : Dst) (ks ts : List Str), ks ≠ [] → (shpO n d ks ts).1.wf ks ts ∧ (shpO n d ks ts).1.inner < 2 ^ n
  | 0, d, ks, ts, hk => ⟨getD_mem (pickI_lt _ (List.length_pos_iff.mpr hk)), Nat.one_pos⟩
  | n + 1, d, ks, ts, hk => by
    have p2 : 2 ^ (n + 1) = 2 ^ n + 2 ^ n := by rw [Nat.pow_succ]; omega
    have pp : 0 < 2 ^ n := Nat.pos_of_ne_zero (by simp)
    unfold shpO
    split
    · exact ⟨getD_mem (pickI_lt _ (List.length_pos_iff.mpr hk)), by show 0 < _; omega⟩
    · split
      · refine ⟨?_, ?_⟩
        · show (if pickI (takeS d 10) 3 = 2 then Sh.none else Sh.any).wf ks ts
          split <;> trivial
        · show (if pickI (takeS d 10) 3 = 2 then Sh.none else Sh.any).inner < _
          split <;> show 0 < _ <;> omega
      · split
        · obtain ⟨a1, a2⟩ := shpO_wf n (takeS d 10) ks ts hk
          obtain ⟨b1, b2⟩ := shpO_wf n (shpO n (takeS d 10) ks ts).2 ks ts hk
          exact ⟨⟨a1, b1⟩, by show _ + _ + 1 < _; omega⟩
        · rename_i h
          have ht : ts ≠ [] := fun z => h (.inr z)
          obtain ⟨b1, b2⟩ := shpO_wf n (takeS (takeS d 10) (ts.length : Int)) ks ts hk
          exact ⟨⟨getD_mem (pickI_lt _ (List.length_pos_iff.mpr ht)), b1⟩, by show _ + 1 < _; omega⟩
theorem size_inner : ∀ s : Sh, s.size ≤ 2 * s.inner + 1
  | .any | .none | .kind _ => Nat.le_refl _
  | .both a b => by
    have h1 := size_inner a
    have h2 := size_inner b
    show a.size + b.size + 1 ≤ 2 * (a.inner + b.inner + 1) + 1
    omega
  | .tied _ a => by
    have h1 := size_inner a
    show a.size + 1 ≤ 2 * (a.inner + 1) + 1
    omega
theorem count_inner {ks ts : List Str} (hok : Wok ks ts) : ∀ s : Sh, s.wf ks ts → (cl s.txt).count 40 = s.inner
  | .any, _ => by decide +kernel
  | .none, _ => by decide +kernel
  | .kind k, h => List.count_eq_zero_of_not_mem fun z => by have := pw_ge (hok.1 k h) _ z; omega
  | .both a b, h => by
    rw [both_cl]
    simp only [List.count_append]
    rw [show (cl "both(").count 40 = 1 from by decide +kernel, show (cl ", ").count 40 = 0 from by decide +kernel, show (cl ")").count 40 = 0 from by decide +kernel, count_inner hok a h.1, count_inner hok b h.2]
    show _ = a.inner + b.inner + 1
    omega
  | .tied t a, h => by
    rw [tied_cl]
    simp only [List.count_append]
    have ht : (cl t).count 40 = 0 := List.count_eq_zero_of_not_mem fun z => by have := pw_ge (hok.2 t h.1) _ z; omega
    rw [show (cl "tied(").count 40 = 1 from by decide +kernel, show (cl ", ").count 40 = 0 from by decide +kernel, show (cl ")").count 40 = 0 from by decide +kernel, ht, count_inner hok a h.2]
    show _ = a.inner + 1
    omega
theorem eqv_unitS (ks : List Str) : PyData.eqv (.tuple (ks.map .str)) (.tuple []) = ks.isEmpty := by
  rw [eqv_unit]
  cases ks <;> rfl
theorem sd_strs {ks : List Str} (h : ∀ k ∈ ks, Pw k) : SeqAt.shaped (.tuple (ks.map .str)) = true := (Sd.tup (k := 0) fun x hx => by
  obtain ⟨y, hy, rfl⟩ := List.mem_map.mp hx
  exact .str (pw_ok (h y hy))).shaped (by decide)
section
variable {P : Program} {w : World} {K : PySem.W.Frag} {mg : Str → Option Value} {base : Heap} {C : Addr}

def mSP (N : Nat) (d : Dst) (xs : List Dx) (z : Dx) (d' : Dst) : Prop := ∃ ks ts n, n < N ∧ xs = [.d (toldD ks ts), .d (.int (n : Int))] ∧ GoodW ks ts ∧ ks ≠ [] ∧ z = .d (shpO n d ks ts).1.dat ∧ d' = (shpO n d ks ts).2
theorem ok_sp {f : Addr} {fd : FuncData} (Df_ : Df K mg "_law_shape" sSP ["draw", "told", "deep"] f fd) (M : MT P w K mg base C) (h__law_take : Cal P w K mg base "_law_take" 4 ["draw", "amount"] (spD K C mTA)) (h__law_pick : Cal P w K mg base "_law_pick" 4 ["draw", "some"] (spD K C mPK)) :
    ∀ N, FnOk P w K mg base (L2.CX P w) (N + 5) f fd ["draw", "told", "deep"] (spD K C (mSP N))
  | 0 => fn_okD (k := 4) Df_.F scSP (fun d xs z d' ⟨_, _, _, h, _⟩ => absurd h (Nat.not_lt_zero _)) fun _ _ _ _ _ _ _ _ _ _ _ _ _ _ ⟨_, _, _, h, _⟩ => absurd h (Nat.not_lt_zero _)
  | N + 1 => by
    have h__law_shape := Df_.cal (ok_sp Df_ M h__law_take h__law_pick N)
    have h__law_take := h__law_take.mono (show 4 ≤ N + 5 by omega)
    have h__law_pick := h__law_pick.mono (show 4 ≤ N + 5 by omega)
    refine fn_okD (k := N + 5) Df_.F scSP (fun d xs z d' ⟨_, _, _, _, h, _⟩ => by rw [h]; rfl) fun cdv A outer s H E hr a la ca d xs z d' ⟨ks, ts, n, hnN, h1, hg, hk, h2, h3⟩ => ?_
    subst h1 h2 h3
    have hr1 : Room (N + 5) _ := hr
    refine ⟨_, (pss_cons (ps_set (i := 3) scSP.nd rfl (.inl rfl) (pe_cal h__law_take hr1 pxE (pa_cons (pv 0) (pa_cons pe_int pa_nil))))
      (pss_cons (ps_if (PW.pt (pw_or (pt_cmpR op_lt (pv 3) pe_int (nomark _)) (pw_or1 (pt_cmpR op_eq (pv 2) pe_int (nomark _))))) (pss_one (ps_ret (pe_ifExp (pt_cmpR (op_neD hr1.units) (pe_ix ix_seq (pv 1) pe_int (fun _ _ => rfl)) (pe_tup pa_nil) (nomark _)) (pe_tup (pa_cons pe_str (pa_cons (pe_cal h__law_pick hr1 pxE (pa_cons (pv 0) (pa_cons (pe_ix ix_seq (pv 1) pe_int (fun _ _ => rfl)) pa_nil))) pa_nil))) (pe_tup (pa_cons pe_str pa_nil))))) pss_nil)
      (pss_cons (ps_if (pt_cmpR op_eq (pv 3) pe_int (nomark _)) (pss_one (ps_ret (pe_cal h__law_pick hr1 pxE (pa_cons (pv 0) (pa_cons (pe_lst (pa_cons (pe_tup (pa_cons pe_str pa_nil)) (pa_cons (pe_tup (pa_cons pe_str pa_nil)) (pa_cons (pe_tup (pa_cons pe_str pa_nil)) pa_nil)))) pa_nil))))) pss_nil)
      (pss_cons (ps_if (PW.pt (pw_or (pt_cmpR op_lt (pv 3) pe_int (nomark _)) (pw_or1 (pt_cmpR (op_eqD hr1.units) (pe_ix ix_seq (pv 1) pe_int (fun _ _ => rfl)) (pe_tup pa_nil) (nomark _))))) (pss_one (ps_ret (pe_tup (pa_cons pe_str (pa_cons (pe_cal h__law_shape hr1 pxE (pa_cons (pv 0) (pa_cons (pv 1) (pa_cons (pe_op op_sub (pv 2) pe_int) pa_nil)))) (pa_cons (pe_cal h__law_shape hr1 pxE (pa_cons (pv 0) (pa_cons (pv 1) (pa_cons (pe_op op_sub (pv 2) pe_int) pa_nil)))) pa_nil)))))) pss_nil)
      (pss_one (ps_ret (pe_tup (pa_cons pe_str (pa_cons (pe_cal h__law_pick hr1 pxE (pa_cons (pv 0) (pa_cons (pe_ix ix_seq (pv 1) pe_int (fun _ _ => rfl)) pa_nil))) (pa_cons (pe_cal h__law_shape hr1 pxE (pa_cons (pv 0) (pa_cons (pv 1) (pa_cons (pe_op op_sub (pv 2) pe_int) pa_nil)))) pa_nil)))))))))), fun c hK hC hn D => ?_⟩
    subst hK hC
    have n0 : 0 < c.n := by rw [hn]; exact (by decide : 0 < 4)
    have n1 : 1 < c.n := by rw [hn]; exact (by decide : 1 < 4)
    have n2 : 2 < c.n := by rw [hn]; exact (by decide : 2 < 4)
    have n3 : 3 < c.n := by rw [hn]; exact (by decide : 3 < 4)
    have hkp : 0 < ks.length := List.length_pos_iff.mpr hk
    have D1 : DrC c a la ca (takeS d 10).cells := by rw [takeS_cells]; exact D
    have ew := ev_callD (m := mTA) (E := E) (z := .d (.int (takeV d 10))) (d' := takeS d 10) D (ea_cons (ev_var (c := c) (S := ⟨Drw a la ca d, (S0 4 [.raw (.ref a), .d (toldD ks ts), .d (.int (n : Int))]).G⟩) (x := .raw (.ref a)) n0 rfl) (ea_cons (ev_int (i := 10)) ea_nil)) ⟨10, rfl, by decide, by decide, rfl, rfl⟩
    obtain ⟨G, hG⟩ : ∃ G : List (Option En), G = [some (.x (.raw (.ref a))), some (.x (.d (toldD ks ts))), some (.x (.d (.int (n : Int)))), some (.x (.d (.int (takeV d 10))))] := ⟨_, rfl⟩
    refine run_seq (S1 := ⟨Drw a la ca (takeS d 10), G⟩) (by rw [hG]; exact run_set (i := 3) ew) ?_
    have g0 : G[0]? = some (some (.x (.raw (.ref a)))) := by rw [hG]; rfl
    have g1 : G[1]? = some (some (.x (.d (toldD ks ts)))) := by rw [hG]; rfl
    have g2 : G[2]? = some (some (.x (.d (.int (n : Int))))) := by rw [hG]; rfl
    have g3 : G[3]? = some (some (.x (.d (.int (takeV d 10))))) := by rw [hG]; rfl
    have v0 : ∀ {ds : Dst}, EvS c ⟨Drw a la ca ds, G⟩ (tVar 0) (.raw (.ref a)) ⟨Drw a la ca ds, G⟩ := ev_var n0 g0
    have v1 : ∀ {ds : Dst}, EvS c ⟨Drw a la ca ds, G⟩ (tVar 1) (.d (toldD ks ts)) ⟨Drw a la ca ds, G⟩ := ev_var n1 g1
    have v2 : ∀ {ds : Dst}, EvS c ⟨Drw a la ca ds, G⟩ (tVar 2) (.d (.int (n : Int))) ⟨Drw a la ca ds, G⟩ := ev_var n2 g2
    have v3 : ∀ {ds : Dst}, EvS c ⟨Drw a la ca ds, G⟩ (tVar 3) (.d (.int (takeV d 10))) ⟨Drw a la ca ds, G⟩ := ev_var n3 g3
    have k0 : ∀ {ds : Dst}, EvS c ⟨Drw a la ca ds, G⟩ (tOp (rIx c.K) (tVar 1) (tC (.int 0))) (.d (.tuple (ks.map .str))) ⟨Drw a la ca ds, G⟩ := ev_op v1 ev_int (rv_it 0 rfl)
    have k1 : ∀ {ds : Dst}, EvS c ⟨Drw a la ca ds, G⟩ (tOp (rIx c.K) (tVar 1) (tC (.int 1))) (.d (.tuple (ts.map .str))) ⟨Drw a la ca ds, G⟩ := ev_op v1 ev_int (rv_it 1 rfl)
    have pk : ∀ {ds : Dst} {te : TE} {l : List Str}, DrC c a la ca ds.cells → EvS c ⟨Drw a la ca ds, G⟩ te (.d (.tuple (l.map .str))) ⟨Drw a la ca ds, G⟩ → 0 < l.length → l.length ≤ 1000 → EvS c ⟨Drw a la ca ds, G⟩ (tCall (spD c.K c.C mPK) [] E (tCons (tVar 0) (tCons te tNil))) (.d (.str (l.getD (pickI ds l.length) ""))) ⟨Drw a la ca (takeS ds (l.length : Int)), G⟩ := fun {ds te l} Dd he hl hl2 => by
      refine ev_callD (m := mPK) Dd (ea_cons v0 (ea_cons he ea_nil)) ⟨l.map .str, .str (l.getD (pickI ds l.length) ""), .inr rfl, by rw [List.length_map]; exact hl, by rw [List.length_map]; exact hl2, ?_, rfl, by rw [List.length_map]⟩
      rw [List.length_map, List.getElem?_map, List.getD_eq_getElem?_getD, List.getElem?_eq_getElem (pickI_lt ds hl)]
      rfl
    have u0 := eb_test (ev_op (k0 (ds := takeS d 10)) (ev_tup (ds := []) ea_nil (Nat.zero_le _)) (rv_ne (sd_strs hg.kp) shaped_unit))
    have leaf : EvS c ⟨Drw a la ca (takeS d 10), G⟩ (tIf (tTest (tOp (rNeD c.K) (tOp (rIx c.K) (tVar 1) (tC (.int 0))) (tTup tNil))) (tTup (tCons (tC (.str "kind")) (tCons (tCall (spD c.K c.C mPK) [] E (tCons (tVar 0) (tCons (tOp (rIx c.K) (tVar 1) (tC (.int 0))) tNil))) tNil))) (tTup (tCons (tC (.str "any")) tNil))) (.d (Sh.kind (ks.getD (pickI (takeS d 10) ks.length) "")).dat) ⟨Drw a la ca (takeS (takeS d 10) (ks.length : Int)), G⟩ :=
      ev_ifT (eb_is u0 (by rw [eqv_unitS]; cases ks with
        | nil => exact absurd rfl hk
        | cons _ _ => rfl)) (ev_tup (ds := [.str "kind", .str (ks.getD (pickI (takeS d 10) ks.length) "")]) (ea_cons ev_str (ea_cons (pk D1 k0 hkp (by have := hg.kl; omega)) ea_nil)) (by simp))
    have t1 := eb_test (ev_op (v3 (ds := takeS d 10)) (ev_int (i := 4)) (rv_cmp (g := fun i j => decide (i < j))))
    have t2 := eb_test (ev_op (v2 (ds := takeS d 10)) (ev_int (i := 0)) rv_eqI)
    cases n with
    | zero =>
      refine run_stop (run_ifT ?_ (run_ret leaf)) rfl
      by_cases h4 : takeV d 10 < 4
      · exact eb_or1 (eb_is t1 (decide_eq_true h4))
      · exact eb_or0 (eb_is t1 (decide_eq_false h4)) t2
    | succ n =>
      unfold shpO
      by_cases h4 : takeV d 10 < 4
      · rw [if_pos h4]
        exact run_stop (run_ifT (eb_or1 (eb_is t1 (decide_eq_true h4))) (run_ret leaf)) rfl
      · rw [if_neg h4]
        refine run_seq (run_ifF (eb_or0 (eb_is t1 (decide_eq_false h4)) (eb_is t2 (decide_eq_false (by omega)))) run_next) ?_
        have t3 := eb_test (ev_op (v3 (ds := takeS d 10)) (ev_int (i := 4)) rv_eqI)
        by_cases he : takeV d 10 = 4
        · rw [if_pos he]
          have h3 := pickI_lt (takeS d 10) (n := 3) (by decide)
          refine run_stop (run_ifT (eb_is t3 (decide_eq_true he)) (run_ret (ev_callD (m := mPK) D1 (ea_cons v0 (ea_cons (ev_lst (ds := [.tuple [.str "any"], .tuple [.str "any"], .tuple [.str "none"]]) (ea_cons (ev_tup (ds := [.str "any"]) (ea_cons ev_str ea_nil) (by simp)) (ea_cons (ev_tup (ds := [.str "any"]) (ea_cons ev_str ea_nil) (by simp)) (ea_cons (ev_tup (ds := [.str "none"]) (ea_cons ev_str ea_nil) (by simp)) ea_nil))) (by simp)) ea_nil)) ⟨_, _, .inl rfl, (by decide : 0 < 3), (by decide : 3 ≤ 1000), ?_, rfl, rfl⟩))) rfl
          show [PyData.tuple [.str "any"], .tuple [.str "any"], .tuple [.str "none"]][pickI (takeS d 10) 3]? = _
          generalize pickI (takeS d 10) 3 = k at *
          match k, h3 with
          | 0, _ => rfl
          | 1, _ => rfl
          | 2, _ => rfl
        · rw [if_neg he]
          refine run_seq (run_ifF (eb_is t3 (decide_eq_false he)) run_next) ?_
          have t5 := eb_test (ev_op (v3 (ds := takeS d 10)) (ev_int (i := 7)) (rv_cmp (g := fun i j => decide (i < j))))
          have t6 := eb_test (ev_op (k1 (ds := takeS d 10)) (ev_tup (ds := []) ea_nil (Nat.zero_le _)) (rv_eq (sd_strs hg.tp) shaped_unit))
          have rc : ∀ {ds : Dst}, DrC c a la ca ds.cells → EvS c ⟨Drw a la ca ds, G⟩ (tCall (spD c.K c.C (mSP N)) [] E (tCons (tVar 0) (tCons (tVar 1) (tCons (tOp (rI0 fun i j => .int (i - j)) (tVar 2) (tC (.int 1))) tNil)))) (.d (shpO n ds ks ts).1.dat) ⟨Drw a la ca (shpO n ds ks ts).2, G⟩ := fun {ds} Dd =>
            ev_callD (m := mSP N) Dd (ea_cons v0 (ea_cons v1 (ea_cons (ev_op v2 ev_int (rv_int (g := fun i j => i - j))) ea_nil))) ⟨ks, ts, n, by omega, by rw [show ((n + 1 : Nat) : Int) - 1 = (n : Int) by omega], hg, hk, rfl, rfl⟩
          by_cases h7 : takeV d 10 < 7 ∨ ts = []
          · rw [if_pos h7]
            refine run_stop (run_ifT (S1 := ⟨Drw a la ca (takeS d 10), G⟩) ?_ (run_ret (S1 := ⟨Drw a la ca _, G⟩) ?_)) rfl
            · by_cases h7' : takeV d 10 < 7
              · exact eb_or1 (eb_is t5 (decide_eq_true h7'))
              · exact eb_or0 (eb_is t5 (decide_eq_false h7')) (eb_is t6 (by rw [eqv_unitS, h7.resolve_left h7']; rfl))
            · exact ev_tup (ds := [.str "both", (shpO n (takeS d 10) ks ts).1.dat, (shpO n (shpO n (takeS d 10) ks ts).2 ks ts).1.dat]) (ea_cons ev_str (ea_cons (rc D1) (ea_cons (rc (by rw [shpO_cells]; exact D1)) ea_nil))) (by simp)
          · rw [if_neg h7]
            have ht : ts ≠ [] := fun z => h7 (.inr z)
            have htp : 0 < ts.length := List.length_pos_iff.mpr ht
            refine run_seq (run_ifF (eb_or0 (eb_is t5 (decide_eq_false fun z => h7 (.inl z))) (eb_is t6 (by rw [eqv_unitS]; cases ts with
              | nil => exact absurd rfl ht
              | cons _ _ => rfl))) run_next) (run_ret (S1 := ⟨Drw a la ca _, G⟩) ?_)
            exact ev_tup (ds := [.str "tied", .str (ts.getD (pickI (takeS d 10) ts.length) ""), (shpO n (takeS (takeS d 10) (ts.length : Int)) ks ts).1.dat]) (ea_cons ev_str (ea_cons (pk D1 k1 htp (by have := hg.tl; omega)) (ea_cons (rc (by rw [takeS_cells]; exact D1)) ea_nil))) (by simp)
end
end K2

/-! TkTry -/
set_option Elab.async false
set_option linter.all false
set_option autoImplicit false
set_option maxRecDepth 100000
set_option maxHeartbeats 4000000
/-! try .. except X as n: .., where the caught one is kept as a value behind it -/
namespace Tk
open PySem PySem.Spec PyProof.Rows L2
section
variable {X : Cx} {pins : List (Addr × Obj)} {σ : L2.St} {H : Hp} {s : Shared}
theorem inv_keep {a : Addr} {cls : Value} {d : Option Addr} {oe : Obj} {vs : Array Value} (I : Inv X pins σ H s) (he : s.heap.get? a = some oe) (hz : Zc cls d oe) (hd : oe.data = .fields vs) (na : H a = none) (h0 : X.s_0.heap.get? a = none) (nL : a ≠ X.env.locals)
    (np : ∀ p ∈ X.pn ++ pins, p.1 ≠ a) (hx : X.ex = []) : Inv X pins σ (upd H a (ExK cls d a)) s := by
  have nt : ∀ {b : Addr} {o : HO}, H b = some o → b ≠ a := fun e => ne_of_none e na
  have n0 : ∀ {b : Addr} {o : Obj}, X.s_0.heap.get? b = some o → b ≠ a := fun {b o} e z => by
    rw [z, h0] at e
    cases e
  have nC : ∀ x c, X.env.cells.lookup x = some c → c ≠ a := fun x c e z => by
    obtain ⟨v, o, ho, hc⟩ := I.cell x c e
    rw [z, he] at ho
    cases ho
    rw [hd] at hc
    cases hc
  refine ⟨I.ok, I.os, I.bare, ⟨I.base.keep, I.base.slot, fun b o e n hb => ?_, I.base.there, fun b xs e => ?_, fun b o u e => ?_, fun b ps e => ?_⟩, I.loc, I.cell, ?_, fun x c e => ?_, fun p hp => ?_, fun b u e => ?_, I.len⟩
  · rw [upd_ne (n0 e)]
    exact I.base.free b o e n hb
  · have q := I.base.tups b xs e
    rw [upd_ne (nt q)]
    exact q
  · have q := I.base.frzs b o u e
    rw [upd_ne (nt q)]
    exact q
  · obtain ⟨more, q⟩ := I.base.tbls b ps e
    exact ⟨more, by rw [upd_ne (nt q)]; exact q⟩
  · rw [upd_ne nL.symm]
    exact I.free
  · rw [upd_ne (nC x c e)]
    exact I.freeC x c e
  · obtain ⟨p1, p2, p3⟩ := I.pin p hp
    exact ⟨p1, by rw [upd_ne (np p hp)]; exact p2, p3⟩
  · by_cases hb : b = a
    · subst hb
      rw [upd_same] at e
      cases e
      exact ⟨⟨oe, vs, he, hz, hd⟩, ⟨oe, he⟩, fun h1 h2 ⟨o, v, q1, q2⟩ k => ⟨o, v, k _ q1, q2⟩⟩
    · rw [upd_ne hb] at e
      exact (I.hok b u e).stay (fun c v _ q => q) (fun c q => by rw [upd_ne (nt q)]; exact q) fun c xs q => by rw [upd_ne (nt q)]; exact q
/-- what the clause wishes: the suite runs on, and behind it the caught one is known -/
def wKeep (K : PySem.W.Frag) (c : Value) (i : Nat) (ts : Addr → Value → Option Addr → TS) (Wout : WX) (D : Ends) : WX := fun cls d σ H =>
  ∃ b, PySem.W.exmOne K cls c = some b ∧ (b = true → ∀ a, H a = none → ts a cls d { nx := fun σ' H' => H' a = none → D.nx (σ'.set i none) (upd H' a (ExK cls d a)), rt := fun _ _ => False } (σ.set i (some (.ref a))) H) ∧ (b = false → Wout cls d σ H)
end
section
variable {X : Cx} {x n : Str} {c : Value} {i : Nat} {body suite : List Stmt} {b₀ : Stmt} {np pos pos' : Pos} {tb : WX → TS} {ts : Addr → Value → Option Addr → TS} {Wout : WX}
theorem ps_try_keep (hex : X.ex = []) (hs : X.stack = X.env :: X.outer) (hf : X.env.frame = some X.env.locals) (hN : X.N.Nodup) (hi : X.N[i]? = some n) (hln : X.env.kindOf n = some .local) (hc : Names X x c) (tk : Takes X Wout)
    (hb : ∀ (W : WX) (pn : List (Addr × Obj)) (xe : Value → Shared → Prop), Takes (X.tr pn xe) W → PassesOwn (model X.prog X.w) X.A X.env xe → PSs (X.tr pn xe) body (tb W))
    (hsu : ∀ (a : Addr) (oe : Obj) (cls : Value) (d : Option Addr) (pn : List (Addr × Obj)), Zc cls d oe → (∃ vs, oe.data = .fields vs) → PSs (X.suite a ((a, oe) :: pn)) (b₀ :: suite) (ts a cls d)) :
    PS X (.Try body [.ExceptHandler (some (.Name x np)) (some n) (b₀ :: suite) pos'] [] [] pos) (fun D σ H => tb (wKeep X.K c i ts Wout D) D σ H) := by
  refine ⟨fun pins s σ H D I h => ?_⟩
  have ok := I.ok
  have frames : X.A.frames = some (X.env :: X.outer) := by rw [ok.frames, hs]
  refine wpAny_Try_except (wpAny_mono ((hb (wKeep X.K c i ts Wout D) (X.pn ++ pins) (fun e s1 => wpAny (model X.prog X.w) X.A (noteFrame e X.env) (fun _ s2 => wpAny (model X.prog X.w) X.A (setFlight e none) (fun _ s3 =>
    wpAny (model X.prog X.w) X.A (handleBy e X.env [.ExceptHandler (some (.Name x np)) (some n) (b₀ :: suite) pos']) (SP X pins D) X.xe s3) X.xe s2) X.xe s1) (fun u s' xx => ?_) PassesOwn.looking).run [] s σ H D (I.toTry _) h) (fun f s1 hsp => ?_) fun _ _ he => he)
  · obtain ⟨a, B, sI, pi, τ, G, cls, d, rfl, J0, grd, ups, sky, aN, eos, bar, b, hb1, hyes, hno⟩ := xx
    have J : Inv X pins τ G sI := J0.ofTry ok
    change wpAny (model X.prog X.w) X.A (noteFrame (.ref a) X.env) _ _ _
    refine Sky.land Zc.steady frames hf (by rw [← hs]; exact sky) fun h3 fl up3 => ?_
    have J3 : Inv X pins τ G { s' with heap := h3 } := J.landed grd fl.1 (ups.trans up3) eos bar
    obtain ⟨o3, v3, g3, z3, d3⟩ := fl.there
    have off : a ∉ frs (X.env :: X.outer) := fun hm => by
      obtain ⟨_, o', e', hnf⟩ := fl.2.2.1.mem hm
      rw [g3] at e'
      cases e'
      exact hnf _ d3
    have nL : a ≠ X.env.locals := fun z => off (List.mem_filterMap.mpr ⟨X.env, List.mem_cons_self, by rw [hf, z]⟩)
    have nF : a ∉ X.fs := fun hm => by
      obtain ⟨e, he, q⟩ := List.mem_filterMap.mp hm
      exact off (List.mem_filterMap.mpr ⟨e, List.mem_cons_of_mem _ he, q⟩)
    have absI : sI.heap.get? a = none := by
      cases q : sI.heap.get? a with
      | none => rfl
      | some o =>
        have := grd a o q (by rw [hs]; exact off)
        rw [fl.2.1] at this
        cases this
    have abs0 : X.s_0.heap.get? a = none := by
      cases q : X.s_0.heap.get? a with
      | none => rfl
      | some o =>
        obtain ⟨o', e'⟩ := J.base.there a o q (by rw [hex]; exact List.not_mem_nil)
        rw [absI] at e'
        cases e'
    have absP : ∀ p ∈ X.pn ++ pins, p.1 ≠ a := fun p hp z => by
      have := (J.pin p hp).1
      rw [z, absI] at this
      cases this
    refine wpAny_handleBy_cons (codeAny_handlers_test ?_) (by intro q; cases q)
    have seen := PySem.W.exm_one (M := model X.prog X.w) J3.kIn (show PySem.W.Looks (model X.prog X.w) h3 (typeOf (.ref a)) cls from fun A Q E s k q => wpAny_typeOf_ref (k _ _ g3) (by rw [z3.1]; exact q)) hb1
    have named : ∀ {Q : Value → Shared → Prop} {E : Value → Shared → Prop}, Q c { s' with heap := h3 } → wpAny (model X.prog X.w) (X.A.mark (some (.ref a))) (eval (.Name x np) X.env) Q E { s' with heap := h3 } := fun {Q E} q => by
      obtain ⟨hg, hdb, hm | ⟨hm, hv, hnn⟩⟩ := hc
      · exact ld_glob (X := X.suite a ((a, o3) :: (X.pn ++ pins))) (J3.suite g3 d3 aN nL nF) hg hm q hdb
      · exact ld_blt (X := X.suite a ((a, o3) :: (X.pn ++ pins))) (J3.suite g3 d3 aN nL nF) hg hm hv q hnn hdb
    refine named (seen.here ?_)
    cases b with
    | true =>
      refine codeAny_handlers_suite_as (HandSPX.lands_againZ fl fun h4 fl4 up4 => ?_)
      obtain ⟨o4, v4, g4, z4, d4⟩ := fl4.there
      have J4 : Inv X pins τ G { s' with heap := h4 } := J.landed grd fl4.1 ((ups.trans up3).trans up4) eos bar
      refine store_ok (X := X.suite a ((a, o4) :: (X.pn ++ pins))) (v := .ref a) (J4.suite g4 d4 aN nL nF) hN hi (.inl hln) rfl (fun s5 S5 => ?_) (.inr hln)
      refine wpAny_mono ((hsu a o4 cls d (X.pn ++ pins) z4 ⟨_, d4⟩).run [] s5 _ G _ S5 (hyes rfl a aN)) (fun f s6 hsp => ?_) fun _ _ z => z.elim
      cases f with
      | next =>
        obtain ⟨σ6, H6, S6, q6⟩ := hsp
        obtain ⟨p1, p2, _⟩ := S6.pin (a, o4) (List.mem_append_left _ List.mem_cons_self)
        have J6 : Inv X pins σ6 (upd H6 a (ExK cls d a)) s6 := inv_keep (S6.unsuite ok) p1 z4 d4 p2 abs0 nL absP hex
        exact gone_ok J6 hN hi hln fun s7 J7 => ⟨_, _, J7, q6 p2⟩
      | brk =>
        obtain ⟨_, _, _, q6⟩ := hsp
        exact q6.elim
      | cont =>
        obtain ⟨_, _, _, q6⟩ := hsp
        exact q6.elim
      | ret u =>
        obtain ⟨_, _, _, _, _, q6⟩ := hsp
        exact q6.elim
    | false =>
      change wpAny _ X.A (handleBy (.ref a) X.env []) _ _ _
      refine wpAny_handleBy_nil ?_
      obtain ⟨k1, k2, k3, oe, vs, T, oT, ts', he, hz, hd, h1, hr⟩ := id fl
      unfold PySem.passOn
      refine wpAny_bind (wpAny_field he hd h1 ?_)
      rw [if_neg (show ¬ ((Value.ref T == Value.none) = true) from by simp)]
      have fin : wpAny (model X.prog X.w) X.A (setFlight (.ref a) X.env.frame) (fun _ s4 => wpAny (model X.prog X.w) X.A (throw (.ref a) : Sem Flow) (SP X pins D) X.xe s4) X.xe { s' with heap := h3 } := by
        rw [hf]
        exact HandSPX.setFlight_upZ fl fun h4 hh4 up4 => wpAny_throw (tk _ _ ⟨a, B, sI, pins, τ, G, cls, d, rfl, J, grd, (ups.trans up3).trans up4, .inr (.inr (by rw [hs]; exact hh4)), aN, eos, bar, hno rfl⟩)
      first
        | exact wpAny_bind (wpAny_pure (wpAny_bind fin))
        | exact wpAny_bind fin
  · cases f with
    | next =>
      obtain ⟨σ', H', J', q⟩ := hsp
      exact wpAny_execs_nil ⟨σ', H', J'.ofTry ok, q⟩
    | brk =>
      obtain ⟨σ', H', J', q⟩ := hsp
      exact ⟨σ', H', J'.ofTry ok, q⟩
    | cont =>
      obtain ⟨σ', H', J', q⟩ := hsp
      exact ⟨σ', H', J'.ofTry ok, q⟩
    | ret u =>
      obtain ⟨v, σ', H', J', r, q⟩ := hsp
      exact ⟨v, σ', H', J'.ofTry ok, r, q⟩
end
end Tk

/-! TkLam -/
set_option Elab.async false
set_option linter.all false
set_option autoImplicit false
set_option maxRecDepth 100000
set_option maxHeartbeats 4000000
/-! x(lambda: e): but the one table all stays -/
namespace Tk
open PySem PySem.Spec PyProof.Rows L2 LamX
/-- all but the object at p stays -/
def ButP (p : Addr) (H H1 : Hp) : Prop := ∀ b o, b ≠ p → H b = some o → H1 b = some o
section
variable {X : Cx} {pins : List (Addr × Obj)} {σ : L2.St} {H : Hp} {s : Shared}
theorem lam_new {c p : Addr} {q : Str} {params : Arguments} {body : Expr} {scope : Scope} {pos : Pos} {E : Value → Shared → Prop} {Q : Value → Shared → Prop} (I : Inv X pins σ H s) (TB : TabB X.base X.mg c p) (hcode : X.env.code = .ref c) (hq : q = X.env.qual ++ "<lambda>")
    (hT : TabS H p q) (hdef : defaultsOf params X.env = ([], [])) (hfree : ∀ y ∈ scope.names, y.2 = .free → ∃ c, X.env.cells.lookup y.1 = some c)
    (h : ∀ (f c' : Addr) (pm ctv : Value) (H1 : Hp) (s' : Shared), Inv X pins σ H1 s' → ButP p H H1 → TabS H1 p q →
      s'.heap.get? f = some (PySem.W.kla_obj "<lambda>" (X.env.qual ++ "<lambda>") params body scope (cloFrom X.env.cells scope.names []) pm c' ctv) → H1 f = none → f ∉ frs X.stack → H1 c' = some (CodeO c' (X.env.qual ++ "<lambda>")) → Q (.ref f) s') :
    wpAny (model X.prog X.w) X.A (eval (.Lambda params body scope pos) X.env) Q E s := by
  subst hq
  obtain ⟨ps, hp, tri, among⟩ := hT
  have known : s.heap.BuiltinsAt X.mg p := TB.bm.keeps I.bk
  have real : s.heap.get? p = some { cls := .none, data := .fields ps } := I.hok p _ hp
  have off : ∀ f, s.heap.objs.size ≤ f → f ∉ frs X.stack := fun f hf z => by
    rcases List.mem_cons.mp (I.stkSub _ z) with e | e
    · exact Nat.lt_irrefl _ (Nat.lt_of_lt_of_le (by rw [e]; exact I.lt) hf)
    · exact I.nofs hf e
  refine PySem.W.kla_eval hdef ?_
  cases look : codeAmong pos ps.toList with
  | some cv =>
    obtain ⟨c', rfl, hco⟩ := among pos cv look
    refine PySem.W.kla_makeFunctionHit (mg := X.mg) (c := c) (P := p) (ps := ps) (closure_ok hfree) I.ok.glob (I.mod.glob.keeps I.bk) hcode (TB.code.keeps I.bk) real tri look known fun ctv h' tk hx hsz => ?_
    exact h h'.objs.size c' ((X.mg "__name__").getD .none) ctv H { s with heap := h'.push (PySem.W.kla_obj "<lambda>" (X.env.qual ++ "<lambda>") params body scope (cloFrom X.env.cells scope.names []) ((X.mg "__name__").getD .none) c' ctv), toks := tk }
      (I.kept fun b o e => Heap.get?_push_of_some _ (hx b o e)) (fun b o _ e => e) ⟨ps, hp, tri, among⟩ (Heap.get?_push_size _ rfl) (I.hok.fresh hsz) (off _ hsz) hco
  | none =>
    refine PySem.W.kla_makeFunction (mg := X.mg) (c := c) (P := p) (ps := ps) (closure_ok hfree) I.ok.glob (I.mod.glob.keeps I.bk) hcode (TB.code.keeps I.bk) real tri look TB.gP known fun c' ctv h' tk hx hge hlt hrec htb => ?_
    obtain ⟨_, oc, vs, t, e2, hoc, hd, hv⟩ := hrec
    cases e2
    have big : s.heap.objs.size ≤ h'.objs.size := Nat.le_trans hge (Nat.le_of_lt hlt)
    have nC : H c' = none := I.hok.fresh hge
    have stay : ButP p H (upd (upd H p (.tbl (ps ++ #[rawInt pos.line, rawInt pos.col, .ref c']))) c' (CodeO c' (X.env.qual ++ "<lambda>"))) := fun b o nb e => by
      rw [upd_ne (ne_of_none e nC), upd_ne nb]
      exact e
    have np : p ≠ c' := ne_of_none hp nC
    refine h h'.objs.size c' ((X.mg "__name__").getD .none) ctv _ _ (inv_table (t' := tk) (more := #[rawInt pos.line, rawInt pos.col, .ref c']) (h' := h'.push (PySem.W.kla_obj "<lambda>" (X.env.qual ++ "<lambda>") params body scope (cloFrom X.env.cells scope.names []) ((X.mg "__name__").getD .none) c' ctv)) I hp
      (fun b o hb e => Heap.get?_push_of_some _ (hx b o hb e)) (Heap.get?_push_of_some _ htb) hge ⟨oc, vs, t, Heap.get?_push_of_some _ hoc, hd, hv⟩) stay ?_ (Heap.get?_push_size _ rfl) ?_ (off _ big) upd_same
    · have el : (ps ++ #[rawInt pos.line, rawInt pos.col, .ref c']).toList = ps.toList ++ [rawInt pos.line, rawInt pos.col, .ref c'] := by simp
      refine ⟨_, by rw [upd_ne np, upd_same], by rw [el]; exact PySem.TriplesOk_snoc _ _ _ _ tri, fun p' cv hcv => ?_⟩
      rw [el] at hcv
      rcases among_app _ tri hcv with z | z
      · obtain ⟨c0, e1, e3⟩ := among p' cv z
        exact ⟨c0, e1, stay _ _ (fun z => by rw [z, hp] at e3; exact codeO_ne ps (Option.some.inj e3).symm) e3⟩
      · exact ⟨c', z, upd_same⟩
    · rw [upd_ne (Nat.ne_of_gt hlt), upd_ne (Nat.ne_of_gt (Nat.lt_of_lt_of_le (Heap.lt_size real) big))]
      exact I.hok.fresh big
end
def tLamP (p : Addr) (q : Str) (TT : (XK → Hp → VK → Prop) → Hp → VK → Prop) (t : XK → TE) : TE := fun σ H Q => TabS H p q ∧ ∀ H1, ButP p H H1 → TabS H1 p q → TT (fun E H' Q' => t E σ H' Q') H1 Q
section
variable {X : Cx}
theorem pe_lamP {q : Str} {TT : (XK → Hp → VK → Prop) → Hp → VK → Prop} {x a : Str} {g c p : Addr} {k : Nat} {pg : Arguments} {bg : List Stmt} {sg : Scope} {dV kV doc pm cdv ct oc : Value} {an od : Option Addr} {osl : Array (Option Value)} {Ng : List Str}
    {params : Arguments} {body : Expr} {scope : Scope} {t : XK → TE} {xp lpos pos : Pos} (hg : Gl X x) (hm : X.mg x = some (.ref g)) (hk : PySem.W.keepIn X.K (.ref g) = true)
    (lk : X.K.lookup g = some ⟨oc, od, .func (PySem.W.fnOf x x pg bg sg dV kV doc pm an cdv ct), osl⟩) (hcg : PySem.W.codeIn X.K cdv x = true) (hb : L2.Binds X.K (PySem.W.fnOf x x pg bg sg dV kV doc pm an cdv ct) [a] []) (Sg : FnScope Ng [a] sg) (hNg : Ng[0]? = some a) (hva : Vis sg a)
    (hG : GivesTo X Ng x sg g cdv bg a q TT) (TB : TabB X.base X.mg c p) (hcode : X.env.code = .ref c) (hq : q = X.env.qual ++ "<lambda>") (hr : Room (k + 2) X.A) (L : LamS X.env.scope scope) (hdef : defaultsOf params X.env = ([], []))
    (hbind : ∀ (q : Str) (cl : List (Str × Addr)) (pm cv ctv : Value), bindArgs (PySem.W.kla_fn "<lambda>" q params body scope cl pm cv ctv) ⟨[], []⟩ = pure [])
    (hbody : ∀ (A : Around) (outer : List Env) (s : Shared) (H : Hp) (E : XK) (f c' : Addr), Room k (A.deeper (lamEnv X scope s.heap.objs.size f c')) → PE (lamCx X A outer s H E scope f c') body (t E))
    (hdb : (x == ("__debug__" : Str)) = false := by decide) (hd : (a == ("__debug__" : Str)) = false := by decide) (hcd : (a == ("__classdict__" : Str)) = false := by decide) :
    PE X (.Call (.Name x xp) [.Lambda params body scope lpos] [] pos) (tLamP p q TT t) := by
  refine ⟨fun pins s σ H Q I ⟨hT, h⟩ => wpAny_Call_Name_kw (ld_glob I hg hm ?_ hdb)⟩
  refine PySem.W.callWith_K (h₀ := X.base) I.ok.mod.kin hk ?_ (by rfl) (by rfl)
  change wpAny _ _ (spliced ((false, eval (.Lambda params body scope lpos) X.env) :: backTo pos (starEach [] X.env))) _ _ s
  refine Calls.spliced_cons (lam_new I TB hcode hq hT hdef (L.has I.ok) fun f c' pm' ctv H1 s' I1 stay T1 hf hfn hfr hco => Calls.spliced_nil ⟨I1.kIn, ?_⟩)
  refine wpAny_call (codeAny_mono (run_ofS (CX := C8.CX0) (E := C8.E0) (Q := Q) (N := Ng) (ps := [a]) (us := [.ref f]) (vs := [.ref f]) lk hcg Sg hr I1.env0 (hb s' [.ref f] I1.kIn rfl) (.cons rfl .nil) rfl fun hr' => ?_) fun r s2 hres => ?_)
  · obtain ⟨t', ht', hq'⟩ := hG f c' s' H1 Q (fun E H' Q' => t E σ H' Q') (fun W pn xe E p1 p2 tk hW => pe_act (i := 0) I1 L hf hfn hfr (hbind _ _ _ _ _) tk hW hr' (fun A outer s H hr2 => hbody A outer s H E f c' hr2) hNg hva hd hcd |> fun z => by rw [hq]; exact z) (by rw [hq]; exact hco) (h H1 stay T1)
    exact ⟨t', ht'.nox, hq'⟩
  · cases r with
    | error e => exact (show False from hres).elim
    | ok fl =>
      cases fl with
      | ret u => exact I1.after hres
      | next => exact hres.elim
      | brk => exact hres.elim
      | cont => exact hres.elim
end
/-! ### isinstance of an exception that is held -/
def rIsX (K : PySem.W.Frag) : List V → Hp → VK → Prop := fun xs H Q => ∃ (a D C2 : Addr) (b : Bool), xs = [.ref a, .ref C2] ∧ H a = some (ExK (.ref D) none a) ∧ ExcC K D ∧ PySem.W.kitOne K (.ref D) (.ref C2) = some b ∧ Q (.bl b) H
theorem call_isX {X : Cx} : CallR X (.builtin "isinstance") (rIsX X.K) := by
  intro pins s σ H xs us Q I r h
  obtain ⟨a, D, C2, b, rfl, ha, C, e, q⟩ := h
  cases r with
  | cons rx rr =>
    cases rr with
    | cons rt rr =>
      cases rr
      cases rx
      cases rt
      obtain ⟨⟨oe, vs, hget, hz, hv⟩, _, _⟩ := I.hok a _ ha
      have J : PySem.W.InstAt s.heap a oe D none := by
        obtain ⟨oc, od, oda, osl⟩ := oe
        obtain ⟨h1, h2⟩ := hz
        dsimp only at h1 h2 hv
        subst h1 h2 hv
        exact ⟨hget, rfl, rfl, trivial⟩
      exact PySem.W.kia_one (PySem.W.handS_kitx_exc C.hg C.hk C.hs C.hd C.ha C.hn C.ht C.hm) I.kIn J e (fun z => nomatch z) fun tk => ⟨.bl b, H, I.kept (t' := tk) fun _ _ z => z, rfl, q⟩
theorem ev_isX {c : Cn} {S S1 : Stt} {te : TE} {D C2 : Addr} {b : Bool} (h : EvS c S te (.d (excD D)) S1) (C : ExcC c.K D) (hk : PySem.W.kitOne c.K (.ref D) (.ref C2) = some b) : EvS c S (tCB (rIsX c.K) (tCons te (tCons (tC (.ref C2)) tNil))) (.d (.bool b)) S1 := fun A σ H L Q q => h A σ H L _ fun v H1 L1 e1 r1 => by
  have r1' : Dt c.K (hid c A S1 H1) v (.dict [(.int (D : Int), .none)]) := r1
  generalize hd : PyData.dict [(.int (D : Int), .none)] = d at r1'
  cases r1' with
  | @exc a D' ha =>
    injection hd with hd
    injection hd with hd _
    injection hd with hd _
    injection hd with hd
    have hD : D = D' := by exact Int.ofNat.inj hd
    subst hD
    exact ⟨a, D, C2, b, rfl, hidP_le _ _ ha, C, hk, q _ H1 L1 e1 (Dt.bl _)⟩
  | _ => cases hd
/-! ### what a lambda's call tells -/
/-- a term that raises -/
def EvX (c : Cn) (S : Stt) (te : TE) (E : XK) (D : Addr) (S1 : Stt) : Prop := ∀ A σ H, Sl c A S σ H → (∀ H', Sl c A S1 σ H' → Same (hid c A S H) (hid c A S1 H') → E (.ref D) none H') → ∀ Q, te σ H Q
theorem exx_callF {c : Cn} {S S1 : Stt} {ta : TA} {xs : List Dx} {m : List Dx → Res → Prop} {E : XK} {D : Addr} (h : EvA c S ta xs S1) (hm : m xs (.ex D)) : EvX c S (tCall (spF c.K c.C m) [] E ta) E D S1 := fun A σ H L hE Q => h A σ H L _ fun vs H1 L1 e1 r1 =>
  ⟨fun b => c.P b ∨ S1.owns A b, xs, .ex D, fun b hb => L1.hidAlive hb, by rw [List.append_nil]; exact r1, hm, fun H2 s2 => by
    obtain ⟨L2, e2⟩ := L1.grow s2
    exact hE H2 L2 (e1.trans e2)⟩
theorem exx_app {c : Cn} {S S1 : Stt} {te : TE} {i : Nat} {ds : List PyData} {E : XK} {D : Addr} (hn : i < c.n) (hi : S.G[i]? = some (some (En.own ds))) (h : EvX c S te E D S1) : EvX c S (tBM c.K "list" rAppend (tVar i) (tCons te tNil)) E D S1 := fun A σ H L hE Q => by
  obtain ⟨e1, _⟩ := L.own i ds hi
  exact ⟨_, e1 hn, own_tyV L hi, h A σ H L hE _⟩
/-- x(lambda: e) where x tells what e raises -/
def TTx (K : PySem.W.Frag) (CE : Addr) : (XK → Hp → VK → Prop) → Hp → VK → Prop := fun tl H Q =>
  tl (fun cls d H' => PySem.W.exmOne K cls (.ref CE) = some true ∧ ∀ a, H' a = none → Q (.ref a) (upd H' a (ExK cls d a))) H (fun _ H' => ∃ v, (some (some V.non) : Option (Option V)) = some (some v) ∧ Q v H')
theorem lam_sl {c : Cn} {S : Stt} {A : Nat → Addr} {σ : L2.St} {H H1 : Hp} {p : Addr} {q : Str} (L : Sl c A S σ H) (hp : c.Mt p) (hW : ∀ H H1, ButP p H H1 → TabS H1 p q → S.W H → S.W H1) (stay : ButP p H H1) (T1 : TabS H1 p q) : Sl c A S σ H1 ∧ Same (hid c A S H) (hid c A S H1) :=
  L.mut (W' := S.W) (fun b o m e => stay b o (fun z => m (z ▸ hp)) e) (fun b m => by
    by_cases hb : b = p
    · subst hb
      obtain ⟨ps, e, _⟩ := T1
      rw [e]
      exact fun z => by cases z
    · intro z
      cases e : H b with
      | none => exact L.al b (c.mp b m) e
      | some o =>
        rw [stay b o hb e] at z
        cases z) (hW H H1 stay T1 L.wk) L.wst
theorem ev_lamOk {c : Cn} {S S1 : Stt} {p CE : Addr} {q : Str} {t : XK → TE} {x : Dx} (hp : c.Mt p) (hT : ∀ H, S.W H → TabS H p q) (hW : ∀ H H1, ButP p H H1 → TabS H1 p q → S.W H → S.W H1) (h : ∀ E, EvS c S (t E) x S1) : EvS c S (tLamP p q (TTx c.K CE) t) (.d .none) S1 := fun A σ H L Q qq =>
  ⟨hT H L.wk, fun H1 stay T1 => by
    obtain ⟨L1, s1⟩ := lam_sl L hp hW stay T1
    exact h _ A σ H1 L1 _ fun v H2 L2 e2 r2 => ⟨.non, rfl, qq .non H2 L2 (s1.trans e2) Dt.non⟩⟩
theorem ev_lamEx {c : Cn} {S S1 : Stt} {p CE D : Addr} {q : Str} {t : XK → TE} (hp : c.Mt p) (hT : ∀ H, S.W H → TabS H p q) (hW : ∀ H H1, ButP p H H1 → TabS H1 p q → S.W H → S.W H1) (hD : PySem.W.exmOne c.K (.ref D) (.ref CE) = some true) (h : ∀ E, EvX c S (t E) E D S1) :
    EvS c S (tLamP p q (TTx c.K CE) t) (.d (excD D)) S1 := fun A σ H L Q qq =>
  ⟨hT H L.wk, fun H1 stay T1 => by
    obtain ⟨L1, s1⟩ := lam_sl L hp hW stay T1
    refine h _ A σ H1 L1 (fun H2 L2 e2 => ⟨hD, fun a ha => ?_⟩) _
    obtain ⟨L3, s3⟩ := L2.grow (same_new (o := ExK (.ref D) none a) ha)
    refine qq _ _ L3 ((s1.trans e2).trans s3) (Dt.exc ?_)
    show hidP _ _ a = _
    rw [hidP_neg (L2.new ha), upd_same]⟩
end Tk

/-! K2u -/
set_option Elab.async false
set_option linter.all false
set_option autoImplicit false
set_option maxRecDepth 100000
set_option maxHeartbeats 4000000
namespace Tk
open PySem PySem.Spec PyProof.Rows L2
theorem takes_len {X : Cx} {W : WX} (t : Takes X W) : Takes X (fun cls d σ H => σ.length = X.N.length → W cls d σ H) := fun u s' ⟨a, B, sI, pins, σ, H, cls, d, e, I, nb, up, sky, na, os, ag, w⟩ =>
  t u s' ⟨a, B, sI, pins, σ, H, cls, d, e, I, nb, up, sky, na, os, ag, w I.len⟩
end Tk
namespace K2
open PySem PySem.Spec PyProof.Rows L2 Tk
abbrev sCA : Stmt := topS 42
theorem scCA : FnScope ["work", "caught", "error"] ["work"] (defScope sCA) := ⟨rfl, rfl, rfl, by decide +kernel, rfl, by decide +kernel, by decide +kernel⟩
theorem caught_gives {X : Cx} {g CE : Addr} {cdg : Value} {q : Str} (hme : X.mg "KindError" = some (.ref CE)) :
    LamX.GivesTo X ["work", "caught", "error"] "_law_caught" (defScope sCA) g cdg (defBody sCA) "work" q (TTx X.K CE) := by
  intro f c' s H Q tl act hc h
  refine ⟨_, pss_cons (ps_set (i := 1) scCA.nd rfl (.inl rfl) pe_non) (pss_cons (ps_try_keep (X := (cxOf C8.CX0 X.prog X.w X.K X.mg X.base ["work", "caught", "error"] "_law_caught" (defScope sCA) g cdg X.A X.stack s H C8.E0).nox) (c := .ref CE) (i := 2)
      (tb := fun W D σ H => ∃ Ech : XK, (∀ cls d σ' H', Ech cls d H' → σ'.length = 3 → W cls d σ' H') ∧ σ[0]? = some (some (.ref f)) ∧ H c' = some (LamX.CodeO c' q) ∧ tl Ech H (fun _ H' => D.nx σ H'))
      (ts := fun a cls d => tAsg (tVar 2) (gName 1)) rfl rfl rfl scCA.nd rfl rfl ⟨rfl, by decide, .inl hme⟩ LamX.takes0 (fun W pn xe tk _ => ?_) (fun a oe cls d pn _ _ => pss_one (ps_set (i := 1) scCA.nd rfl (.inl rfl) (pv 2)))) (pss_one (ps_ret (pv 1)))), ?_⟩
  · refine ⟨fun pins s' σ H' D I h' => ?_⟩
    obtain ⟨Ech, hW, h1, h2, h3⟩ := h'
    have hp := fun p1 p2 => act (fun cls d σ H => σ.length = 3 → W cls d σ H) pn xe Ech p1 p2 (takes_len tk) hW
    exact (pss_one (ps_expr (hp _ _))).run pins s' σ H' D I ⟨h1, h2, h3⟩
  · refine ⟨fun cls d H' => PySem.W.exmOne X.K cls (.ref CE) = some true ∧ ∀ a, H' a = none → Q (.ref a) (upd H' a (ExK cls d a)), fun cls d σ' H' ⟨e1, e2⟩ hl => ⟨true, e1, fun _ a ha => ?_, fun z => by cases z⟩, rfl, hc, ?_⟩
    · have l2 : 2 < σ'.length := by omega
      have l1 : 1 < σ'.length := by omega
      refine ⟨.ref a, List.getElem?_set_self l2, fun hn => ⟨.ref a, ?_, e2 a hn⟩⟩
      rw [List.getElem?_set_ne (by decide), List.getElem?_set_self (by rw [List.length_set]; exact l1)]
    · exact h
end K2

/-! K2v -/
set_option Elab.async false
set_option linter.all false
set_option autoImplicit false
set_option maxRecDepth 100000
set_option maxHeartbeats 4000000
namespace Tk
open PySem PySem.Spec PyProof.Rows L2
section
variable {X : Cx} {e : Expr} {es : List Expr} {te : TE} {ta : TA} {r : R2} {c : Str} {j : Nat} {p2 pos0 : Pos}
/-- a first item e + 'c': behind it a token is out -/
theorem pa_first (ho : OpR X (binaryOp .Add) r) (he : PE X e te) (hr : PAT X es ta) (hs : starEach (.BinOp e .Add (.Constant (.str c) j p2) pos0 :: es) X.env = (false, eval (.BinOp e .Add (.Constant (.str c) j p2) pos0) X.env) :: starEach es X.env := by rfl) :
    PA X (.BinOp e .Add (.Constant (.str c) j p2) pos0 :: es) (tCons (tOp r te (tC (.str c))) ta) := by
  refine ⟨fun pos pins s σ H Q I h => ?_⟩
  rw [hs]
  change wpAny _ _ (spliced ((false, eval (.BinOp e .Add (.Constant (.str c) j p2) pos0) X.env) :: backTo pos (starEach es X.env))) _ _ s
  refine Calls.spliced_cons (wpAny_BinOp (thn (he.run pins s σ H _ I h) fun v s1 ⟨x, H1, I1, r1, q1⟩ => Calls.Constant_str ?_))
  refine wpAny_mono (PySem.wpAny_toks (ho pins _ σ H1 x (.str c) v (.str c s1.toks) _ (I1.tok (s1.toks + 1)) r1 ⟨_, rfl⟩ q1)) (fun w s3 hq => ?_) fun _ _ z => z.2
  obtain ⟨hk, y, H3, I3, r3, q3⟩ := hq
  have hk' : s1.toks + 1 ≤ s3.toks := hk
  exact thn (hr pos pins s3 σ H3 _ (by omega) I3 q3) fun us s4 ⟨xs, H4, I4, r4, q4⟩ => ⟨y :: xs, H4, I4, .cons r3 r4, q4⟩
theorem CwR_pat (he : PE X e te) (hr : PAT X es ta) (hs : starEach (e :: es) X.env = (false, eval e X.env) :: starEach es X.env := by rfl) : PAT X (e :: es) (tCons te ta) := pat_cons (CwR.PET.of he) hr hs
end
theorem ev_repl {c : Cn} {S S1 : Stt} {te : TE} {t y z : Str} (h : EvS c S te (.d (.str t)) S1) (hz : t.length + (t.length + 1) * z.length ≤ 16777216) : EvS c S (CwR.tReplC te y z) (.d (.str (Txt.replace t y z))) S1 := fun A σ H L Q q => h A σ H L _ fun v H1 L1 e1 r1 => ⟨t, Dt.str_inv r1, hz, q _ H1 L1 e1 (Dt.str _)⟩
end Tk
namespace K2
open PySem PySem.Spec PyProof.Rows L2 Tk
abbrev sNT : Stmt := topS 52
theorem scNT : FnScope ["draw", "text", "at", "sign", "way"] ["draw", "text"] (defScope sNT) := ⟨rfl, rfl, rfl, by decide +kernel, rfl, by decide +kernel, by decide +kernel⟩

def sg11 : List Str := ["(", ")", ",", " ", "a", "any", "both(", "A", "\n", ", ", "none"]
def nine (t : Str) : List Str := [t ++ ")", " " ++ t, sl (cl t) 0 (t.length - 1), Txt.replace t ", " ",", Txt.replace t "both" "tied", "", t ++ t, ("both(" ++ t) ++ ", any)", ("tied(" ++ t) ++ ", any)"]
def n1 (d : Dst) (t : Str) : Dst := takeS d ((t.length + 1 : Nat) : Int)
def n2 (d : Dst) (t : Str) : Dst := takeS (n1 d t) 11
def n3 (d : Dst) (t : Str) : Dst := takeS (n2 d t) 5
def nA (d : Dst) (t : Str) : Nat := pickI d (t.length + 1)
def nS (d : Dst) (t : Str) : Str := sg11.getD (pickI (n1 d t) 11) ""
def nW (d : Dst) (t : Str) : Nat := pickI (n2 d t) 5
def nearO (d : Dst) (t : Str) : Str × Dst := if nW d t < 2 then ((sl (cl t) 0 (nA d t) ++ nS d t) ++ sl (cl t) (nA d t + nW d t) t.length, n3 d t)
  else if nW d t = 2 then (sl (cl t) 0 (nA d t) ++ sl (cl t) (nA d t + 1) t.length, n3 d t) else ((nine t).getD (pickI (n3 d t) 9) "", takeS (n3 d t) 9)
theorem nearO_cells (d : Dst) (t : Str) : (nearO d t).2.cells = d.cells := by
  have h3 : (n3 d t).cells = d.cells := by
    unfold n3 n2 n1
    rw [takeS_cells, takeS_cells, takeS_cells]
  unfold nearO
  split
  · exact h3
  · split
    · exact h3
    · exact (takeS_cells _ _).trans h3
theorem cut_last (s : Str) : cutS s none (some (-1)) = sl (cl s) 0 (s.length - 1) := by
  unfold cutS sl
  have e : HT.sIx s.length s.length (some (-1)) = s.length - 1 := by
    show (if (-1 : Int) < 0 then ((-1 : Int) + (s.length : Int)).toNat else min (-1 : Int).toNat s.length) = _
    rw [if_pos (by decide)]
    omega
  rw [HT.sIx_none, e]
section
variable {P : Program} {w : World} {K : PySem.W.Frag} {mg : Str → Option Value} {base : Heap} {C : Addr}

def mNT (d : Dst) (xs : List Dx) (z : Dx) (d' : Dst) : Prop := ∃ t : Str, xs = [.d (.str t)] ∧ t.length ≤ 1000 ∧ z = .d (.str (nearO d t).1) ∧ d' = (nearO d t).2
theorem ok_nt {f : Addr} {fd : FuncData} (F : Fun K "_law_near_text" "_law_near_text" sNT f fd) (M : MT P w K mg base C) (h__law_take : Cal P w K mg base "_law_take" 4 ["draw", "amount"] (spD K C mTA)) (h__law_pick : Cal P w K mg base "_law_pick" 4 ["draw", "some"] (spD K C mPK)) :
    FnOk P w K mg base (L2.CX P w) 5 f fd ["draw", "text"] (spD K C mNT) := by
  refine fn_okD F scNT (fun d xs z d' ⟨_, h, _⟩ => by rw [h]; rfl) fun cdv A outer s H E hr a la ca d xs z d' ⟨t, h1, hz, h2, h3⟩ => ?_
  subst h1 h2 h3
  have hr1 : Room 4 _ := hr
  refine ⟨_, (pss_cons (ps_par (i := 2) (j := 3) rfl scNT.nd rfl rfl (by decide) rfl rfl (pa_cons (pe_cal h__law_take hr1 pxE (pa_cons (pv 0) (pa_cons (pe_op op_add (pe_callB call_lenStr (by rfl) (M.B "len" (by decide)) boot_len (pa_cons (pv 1) pa_nil)) pe_int) pa_nil))) (pa_cons (pe_cal h__law_pick hr1 pxE (pa_cons (pv 0) (pa_cons (pe_lst (pa_cons pe_str (pa_cons pe_str (pa_cons pe_str (pa_cons pe_str (pa_cons pe_str (pa_cons pe_str (pa_cons pe_str (pa_cons pe_str (pa_cons pe_str (pa_cons pe_str (pa_cons pe_str pa_nil)))))))))))) pa_nil))) pa_nil)) rfl)
      (pss_cons (ps_set (i := 4) scNT.nd rfl (.inl rfl) (pe_cal h__law_take hr1 pxE (pa_cons (pv 0) (pa_cons pe_int pa_nil))))
      (pss_cons (ps_if (pt_cmpR op_lt (pv 4) pe_int (nomark _)) (pss_one (ps_ret (pe_op op_addStr (pe_op op_addStr (pe_slice sl_str (pv 1) po_none (po_some (pv 2))) (pv 3)) (pe_slice sl_str (pv 1) (po_some (pe_op op_add (pv 2) (pv 4))) po_none)))) pss_nil)
      (pss_cons (ps_if (pt_cmpR op_eq (pv 4) pe_int (nomark _)) (pss_one (ps_ret (pe_op op_addStr (pe_slice sl_str (pv 1) po_none (po_some (pv 2))) (pe_slice sl_str (pv 1) (po_some (pe_op op_add (pv 2) pe_int)) po_none)))) pss_nil)
      (pss_one (ps_ret (pe_cal h__law_pick hr1 pxE (pa_cons (pv 0) (pa_cons (pe_lst (pa_first op_addStr (pv 1) (CwR_pat (pe_op op_addStr pe_str (pv 1)) (CwR_pat (pe_slice sl_str (pv 1) po_none (po_some (pe_un un_neg pe_int))) (pat_cons (CwR.pet_replC (pv 1)) (pat_cons (CwR.pet_replC (pv 1)) (CwR_pat pe_str (CwR_pat (pe_op op_addStr (pv 1) (pv 1)) (CwR_pat (pe_op op_addStr (pe_op op_addStr pe_str (pv 1)) pe_str) (CwR_pat (pe_op op_addStr (pe_op op_addStr pe_str (pv 1)) pe_str) pat_nil)))))))))) pa_nil))))))))), fun c hK hC hn D => ?_⟩
  subst hK hC
  have m0 : 0 < c.n := by rw [hn]; exact (by decide : 0 < 5)
  have m1 : 1 < c.n := by rw [hn]; exact (by decide : 1 < 5)
  have m2 : 2 < c.n := by rw [hn]; exact (by decide : 2 < 5)
  have m3 : 3 < c.n := by rw [hn]; exact (by decide : 3 < 5)
  have m4 : 4 < c.n := by rw [hn]; exact (by decide : 4 < 5)
  have big : (100000 : Nat) ≤ sizeLine := by decide
  have sz : t.length ≤ sizeLine := by omega
  have D1 : DrC c a la ca (n1 d t).cells := by unfold n1; rw [takeS_cells]; exact D
  have D2 : DrC c a la ca (n2 d t).cells := by unfold n2; rw [takeS_cells]; exact D1
  have D3 : DrC c a la ca (n3 d t).cells := by unfold n3; rw [takeS_cells]; exact D2
  have e1 := ev_callD (m := mTA) (E := E) (z := .d (.int (nA d t : Int))) (d' := n1 d t) D (ea_cons (ev_var (c := c) (S := ⟨Drw a la ca d, (S0 5 [.raw (.ref a), .d (.str t)]).G⟩) (x := .raw (.ref a)) m0 rfl) (ea_cons (ev_op (ev_lenS (ev_var m1 rfl) sz) (ev_int (i := 1)) (rv_int (g := fun i j => i + j))) ea_nil)) ⟨((t.length + 1 : Nat) : Int), rfl, by omega, by omega, by unfold nA; rw [← pickI_eq d (n := t.length + 1) (by omega)], rfl⟩
  have h11 := pickI_lt (n1 d t) (n := 11) (by decide)
  have e2 := ev_callD (m := mPK) (E := E) (z := .d (.str (nS d t))) (d' := n2 d t) D1 (ea_cons (ev_var (c := c) (S := ⟨Drw a la ca (n1 d t), (S0 5 [.raw (.ref a), .d (.str t)]).G⟩) (x := .raw (.ref a)) m0 rfl) (ea_cons (ev_lst (ds := sg11.map .str) (ea_cons ev_str (ea_cons ev_str (ea_cons ev_str (ea_cons ev_str (ea_cons ev_str (ea_cons ev_str (ea_cons ev_str (ea_cons ev_str (ea_cons ev_str (ea_cons ev_str (ea_cons ev_str ea_nil))))))))))) (by decide)) ea_nil)) ⟨sg11.map .str, _, .inl rfl, by decide, by decide, by
    show (sg11.map PyData.str)[pickI (n1 d t) 11]? = some (.str (nS d t))
    unfold nS
    rw [List.getElem?_map, List.getD_eq_getElem?_getD, List.getElem?_eq_getElem (show pickI (n1 d t) 11 < sg11.length from h11)]
    rfl, rfl, rfl⟩
  refine run_seq (S1 := ⟨Drw a la ca (n2 d t), [some (.x (.raw (.ref a))), some (.x (.d (.str t))), some (.x (.d (.int (nA d t : Int)))), some (.x (.d (.str (nS d t)))), none]⟩) (run_parVV e1 e2) ?_
  have e3 := ev_callD (m := mTA) (E := E) (z := .d (.int (nW d t : Int))) (d' := n3 d t) D2 (ea_cons (ev_var (c := c) (S := ⟨Drw a la ca (n2 d t), [some (.x (.raw (.ref a))), some (.x (.d (.str t))), some (.x (.d (.int (nA d t : Int)))), some (.x (.d (.str (nS d t)))), none]⟩) (x := .raw (.ref a)) m0 rfl) (ea_cons (ev_int (i := 5)) ea_nil)) ⟨5, rfl, by decide, by decide, by unfold nW; rw [← pickI_eq (n2 d t) (n := 5) (by decide)]; rfl, rfl⟩
  obtain ⟨G, hG⟩ : ∃ G : List (Option En), G = [some (.x (.raw (.ref a))), some (.x (.d (.str t))), some (.x (.d (.int (nA d t : Int)))), some (.x (.d (.str (nS d t)))), some (.x (.d (.int (nW d t : Int))))] := ⟨_, rfl⟩
  refine run_seq (S1 := ⟨Drw a la ca (n3 d t), G⟩) (by rw [hG]; exact run_set (i := 4) e3) ?_
  have v0 : EvS c ⟨Drw a la ca (n3 d t), G⟩ (tVar 0) (.raw (.ref a)) ⟨Drw a la ca (n3 d t), G⟩ := ev_var m0 (by rw [hG]; rfl)
  have v1 : EvS c ⟨Drw a la ca (n3 d t), G⟩ (tVar 1) (.d (.str t)) ⟨Drw a la ca (n3 d t), G⟩ := ev_var m1 (by rw [hG]; rfl)
  have v2 : EvS c ⟨Drw a la ca (n3 d t), G⟩ (tVar 2) (.d (.int (nA d t : Int))) ⟨Drw a la ca (n3 d t), G⟩ := ev_var m2 (by rw [hG]; rfl)
  have v3 : EvS c ⟨Drw a la ca (n3 d t), G⟩ (tVar 3) (.d (.str (nS d t))) ⟨Drw a la ca (n3 d t), G⟩ := ev_var m3 (by rw [hG]; rfl)
  have v4 : EvS c ⟨Drw a la ca (n3 d t), G⟩ (tVar 4) (.d (.int (nW d t : Int))) ⟨Drw a la ca (n3 d t), G⟩ := ev_var m4 (by rw [hG]; rfl)
  have pre : EvS c ⟨Drw a la ca (n3 d t), G⟩ (tSl rSlS (tVar 1) tNoPart (tPart (tVar 2))) (.d (.str (sl (cl t) 0 (nA d t)))) ⟨Drw a la ca (n3 d t), G⟩ := ev_is (ev_slS v1 ep_none (ep_some v2) sz) (by rw [cut_pre])
  have l1 : (sl (cl t) 0 (nA d t)).length ≤ t.length := by rw [← cl_len t]; exact sl_len _ _ _
  have l2 : (nS d t).length ≤ 5 := by
    have : ∀ k, (sg11.getD k "").length ≤ 5 := fun k => by
      match k with
      | 0 | 1 | 2 | 3 | 4 | 5 | 6 | 7 | 8 | 9 | 10 => decide +kernel
      | k + 11 => exact (by decide +kernel : ("" : Str).length ≤ 5)
    exact this _
  have l3 : ∀ i, (sl (cl t) i t.length).length ≤ t.length := fun i => by
    have := sl_len (cl t) i t.length
    rw [cl_len] at this
    exact this
  have u1 := eb_test (ev_op v4 (ev_int (i := 2)) (rv_cmp (g := fun i j => decide (i < j))))
  have u2 := eb_test (ev_op v4 (ev_int (i := 2)) rv_eqI)
  unfold nearO
  by_cases w2 : nW d t < 2
  · rw [if_pos w2]
    exact run_stop (run_ifT (eb_is u1 (decide_eq_true (by omega))) (run_ret (ev_op (ev_op pre v3 (rv_addS (by omega))) (ev_is (ev_slS v1 (ep_some (ev_op v2 v4 (rv_int (g := fun i j => i + j)))) ep_none sz) (by rw [show ((nA d t : Int) + (nW d t : Int)) = ((nA d t + nW d t : Nat) : Int) from rfl, cut_suf])) (rv_addS (by rw [len_app]; have := l3 (nA d t + nW d t); omega))))) rfl
  · rw [if_neg w2]
    refine run_seq (run_ifF (eb_is u1 (decide_eq_false (by omega))) run_next) ?_
    by_cases we : nW d t = 2
    · rw [if_pos we]
      exact run_stop (run_ifT (eb_is u2 (decide_eq_true (by omega))) (run_ret (ev_op pre (ev_is (ev_slS v1 (ep_some (ev_op v2 (ev_int (i := 1)) (rv_int (g := fun i j => i + j)))) ep_none sz) (by rw [nat1, cut_suf])) (rv_addS (by have := l3 (nA d t + 1); omega))))) rfl
    · rw [if_neg we]
      refine run_seq (run_ifF (eb_is u2 (decide_eq_false (by omega))) run_next) ?_
      have h9 := pickI_lt (n3 d t) (n := 9) (by decide)
      have f1 : (")" : Str).length = 1 := by decide +kernel
      have f2 : (" " : Str).length = 1 := by decide +kernel
      have f3 : ("both(" : Str).length = 5 := by decide +kernel
      have f4 : ("tied(" : Str).length = 5 := by decide +kernel
      have f5 : (", any)" : Str).length = 6 := by decide +kernel
      have f6 : ("," : Str).length = 1 := by decide +kernel
      have f7 : ("tied" : Str).length = 4 := by decide +kernel
      have el : EvS c ⟨Drw a la ca (n3 d t), G⟩ _ (.d (.list ((nine t).map .str))) ⟨Drw a la ca (n3 d t), G⟩ := ev_lst (ds := (nine t).map .str) (ea_cons (ev_op v1 ev_str (rv_addS (by omega))) (ea_cons (ev_op ev_str v1 (rv_addS (by omega))) (ea_cons (ev_is (ev_slS v1 ep_none (ep_some (ev_neg (ev_int (i := 1)))) sz) (by rw [cut_last])) (ea_cons (ev_repl v1 (by rw [f6]; omega)) (ea_cons (ev_repl v1 (by rw [f7]; omega)) (ea_cons ev_str (ea_cons (ev_op v1 v1 (rv_addS (by omega))) (ea_cons (ev_op (ev_op ev_str v1 (rv_addS (by omega))) ev_str (rv_addS (by rw [len_app]; omega))) (ea_cons (ev_op (ev_op ev_str v1 (rv_addS (by omega))) ev_str (rv_addS (by rw [len_app]; omega))) ea_nil))))))))) (by simp [nine])
      exact run_ret (ev_callD (m := mPK) D3 (ea_cons v0 (ea_cons el ea_nil)) ⟨(nine t).map .str, _, .inl rfl, (by decide : 0 < 9), (by decide : 9 ≤ 1000), by
        show ((nine t).map PyData.str)[pickI (n3 d t) 9]? = some (.str ((nine t).getD (pickI (n3 d t) 9) ""))
        rw [List.getElem?_map, List.getD_eq_getElem?_getD, List.getElem?_eq_getElem (show pickI (n3 d t) 9 < (nine t).length from h9)]
        rfl, rfl, rfl⟩)
end
end K2

/-! K2w -/
set_option Elab.async false
set_option linter.all false
set_option autoImplicit false
set_option maxRecDepth 100000
set_option maxHeartbeats 4000000
namespace K2
open PySem PySem.Spec PyProof.Rows L2 Tk
/-! ### near texts are no texts of too great shapes -/
def NNd (d : Int) (l : List Nat) : Prop := ∀ i, 0 ≤ d + bal (l.take i)
theorem NNd.up {d e : Int} {l : List Nat} (h : NNd d l) (hd : d ≤ e) : NNd e l := fun i => by
  have := h i
  omega
theorem NNd.app {d : Int} {a b : List Nat} (ha : NNd d a) (hb : NNd (d + bal a) b) : NNd d (a ++ b) := fun i => by
  by_cases h : i ≤ a.length
  · rw [List.take_append_of_le_length h]
    exact ha i
  · rw [List.take_append, List.take_of_length_le (by omega), bal_app]
    have := hb (i - a.length)
    omega
theorem nn_no {d : Int} {l : List Nat} (hd : 0 ≤ d) (h : 41 ∉ l) : NNd d l := fun i => by
  have : (l.take i).count 41 = 0 := List.count_eq_zero_of_not_mem fun z => h (List.mem_of_mem_take z)
  unfold bal
  rw [this]
  omega
theorem nn_txt {ks ts : List Str} (hok : Wok ks ts) : ∀ sh : Sh, sh.wf ks ts → NNd 0 (cl sh.txt)
  | .any, _ => nn_no (by decide) (by decide +kernel)
  | .none, _ => nn_no (by decide) (by decide +kernel)
  | .kind k, h => nn_no (by decide) fun z => by have := pw_ge (hok.1 k h) _ z; omega
  | .both a b, h => by
    have a1 := (txt_bal hok a h.1).1
    have b1 := (txt_bal hok b h.2).1
    have f1 : bal (cl "both(") = 1 := by decide +kernel
    have f2 : bal (cl ", ") = 0 := by decide +kernel
    have ia := nn_txt hok a h.1
    have ib := nn_txt hok b h.2
    rw [both_cl]
    refine .app (.app (nn_no (by decide) (by decide +kernel)) (.app (ia.up (by rw [f1]; decide)) (.app (nn_no (by rw [f1, a1]; decide) (by decide +kernel)) (ib.up (by rw [f1, a1, f2]; decide))))) fun i => ?_
    rw [bal_app, bal_app, bal_app, f1, f2, a1, b1]
    have : i = 0 ∨ 1 ≤ i := by omega
    rcases this with rfl | hi
    · decide +kernel
    · rw [List.take_of_length_le (by rw [show (cl ")").length = 1 from by decide +kernel]; exact hi)]
      decide +kernel
  | .tied t a, h => by
    have a1 := bal_word (pw_ge (hok.2 t h.1))
    have b1 := (txt_bal hok a h.2).1
    have f1 : bal (cl "tied(") = 1 := by decide +kernel
    have f2 : bal (cl ", ") = 0 := by decide +kernel
    have ib := nn_txt hok a h.2
    have ia : NNd 0 (cl t) := nn_no (by decide) fun z => by have := pw_ge (hok.2 t h.1) _ z; omega
    rw [tied_cl]
    refine .app (.app (nn_no (by decide) (by decide +kernel)) (.app (ia.up (by rw [f1]; decide)) (.app (nn_no (by rw [f1, a1]; decide) (by decide +kernel)) (ib.up (by rw [f1, a1, f2]; decide))))) fun i => ?_
    rw [bal_app, bal_app, bal_app, f1, f2, a1, b1]
    have : i = 0 ∨ 1 ≤ i := by omega
    rcases this with rfl | hi
    · decide +kernel
    · rw [List.take_of_length_le (by rw [show (cl ")").length = 1 from by decide +kernel]; exact hi)]
      decide +kernel
/-- within a shape that others lie in, the brackets stay open -/
theorem open_br {ks ts : List Str} (hok : Wok ks ts) (sh : Sh) (hw : sh.wf ks ts) (hi : 0 < sh.inner) {i : Nat} (h5 : 5 ≤ i) (hl : i < sh.txt.length) : 1 ≤ bal ((cl sh.txt).take i) := by
  have key : ∀ (x m : List Nat), cl sh.txt = x ++ m ++ cl ")" → x.length = 5 → bal x = 1 → NNd 0 m → 1 ≤ bal ((cl sh.txt).take i) := fun x m e hx hb hm => by
    have hlen := congrArg List.length e
    rw [cl_len, List.length_append, List.length_append, hx, show (cl ")").length = 1 from by decide +kernel] at hlen
    rw [e, List.append_assoc, List.take_append, List.take_of_length_le (by omega), hx, List.take_append_of_le_length (by omega), bal_app, hb]
    have := hm (i - 5)
    omega
  cases sh with
  | any => exact absurd hi (by decide)
  | none => exact absurd hi (by decide)
  | kind k => exact absurd hi (Nat.lt_irrefl 0)
  | both a b =>
    have a1 := (txt_bal hok a hw.1).1
    have f2 : bal (cl ", ") = 0 := by decide +kernel
    exact key _ _ (both_cl a b) (by decide +kernel) (by decide +kernel) (.app (nn_txt hok a hw.1) (.app (nn_no (by rw [a1]; decide) (by decide +kernel)) ((nn_txt hok b hw.2).up (by rw [a1, f2]; decide))))
  | tied t a =>
    have a1 := bal_word (pw_ge (hok.2 t hw.1))
    have f2 : bal (cl ", ") = 0 := by decide +kernel
    have ia : NNd 0 (cl t) := nn_no (by decide) fun z => by have := pw_ge (hok.2 t hw.1) _ z; omega
    exact key _ _ (tied_cl t a) (by decide +kernel) (by decide +kernel) (.app ia (.app (nn_no (by rw [a1]; decide) (by decide +kernel)) ((nn_txt hok a hw.2).up (by rw [a1, f2]; decide))))
theorem no_twice {ks ts : List Str} (hok : Wok ks ts) {s0 s : Sh} (h0 : s0.wf ks ts) (h : s.wf ks ts) (hi : 0 < s0.inner) : s0.txt ++ s0.txt ≠ s.txt := fun e => by
  have hc : cl s0.txt ++ cl s0.txt = cl s.txt := by rw [← cl_app, e]
  have hin : 0 < s.inner := by
    rw [← count_inner hok s h, ← hc, List.count_append, count_inner hok s0 h0]
    omega
  have l5 : 8 ≤ s0.txt.length := by
    cases s0 with
    | any => exact absurd hi (by decide)
    | none => exact absurd hi (by decide)
    | kind k => exact absurd hi (Nat.lt_irrefl 0)
    | both a b =>
      rw [both_len]
      omega
    | tied t a =>
      rw [tied_len]
      omega
  have hl : s.txt.length = s0.txt.length + s0.txt.length := by rw [← e, len_app]
  have := open_br hok s h hin (i := s0.txt.length) (by omega) (by omega)
  rw [← hc, ← cl_len s0.txt, List.take_left', (txt_bal hok s0 h0).1] at this
  · exact absurd this (by decide)
  · rfl
/-! ### counts -/
theorem repl_count {y z : List Nat} (hz : 40 ∉ z) : ∀ (n : Nat) (l : List Nat), (StrLaws.replS y z n l).count 40 ≤ l.count 40
  | n, [] => by
    cases n <;> exact Nat.le_refl _
  | 0, c :: r => by
    rw [StrLaws.replS]
    have h1 := repl_count hz (y.length - 1) r (y := y)
    have h2 := repl_count hz 0 r (y := y)
    split
    · rw [List.count_append, List.count_eq_zero_of_not_mem hz, List.count_cons]
      omega
    · rw [List.count_cons, List.count_cons]
      omega
  | n + 1, c :: r => by
    rw [StrLaws.replS]
    have h1 := repl_count hz n r (y := y)
    rw [List.count_cons]
    omega
theorem replace_count {t y z : Str} (hy : 1 ≤ y.length) (hz : 40 ∉ cl z) : (cl (Txt.replace t y z)).count 40 ≤ (cl t).count 40 := by
  show ((Txt.replace t y z).cps.toList).count 40 ≤ _
  rw [StrLaws.replace_list hy]
  exact repl_count hz 0 _
theorem pre_suf_count (l : List Nat) {i j : Nat} (h : i ≤ j) (k : Nat) : (cl (sl l 0 i)).count 40 + (cl (sl l j k)).count 40 ≤ l.count 40 := by
  have e : l.count 40 = (l.take i).count 40 + (l.drop i).count 40 := by rw [← List.count_append, List.take_append_drop]
  have h1 : (cl (sl l 0 i)).count 40 ≤ (l.take i).count 40 := by
    rw [cl_sl, List.drop_zero, Nat.sub_zero]
    exact Nat.le_refl _
  have h2 : (cl (sl l j k)).count 40 ≤ (l.drop i).count 40 := by
    rw [cl_sl]
    refine ((List.take_sublist _ _).trans ?_).count_le 40
    have : l.drop j = (l.drop i).drop (j - i) := by
      rw [List.drop_drop]
      congr 1
      omega
    rw [this]
    exact List.drop_sublist _ _
  omega
theorem near_facts {ks ts : List Str} (hok : Wok ks ts) {s0 : Sh} (h0 : s0.wf ks ts) (hi : s0.inner ≤ 15) (d : Dst) :
    (nearO d s0.txt).1.length ≤ 10000 ∧ (cl (nearO d s0.txt).1).count 40 ≤ 31 ∧ ∀ sh : Sh, sh.wf ks ts → (nearO d s0.txt).1 = sh.txt → sh.size ≤ 60 := by
  have hc := count_inner hok s0 h0
  have hl := txt_len hok s0 h0
  have hs := size_inner s0
  have hlen : s0.txt.length ≤ 500 := by omega
  -- most have one bracket more at most
  have few : ∀ n : Str, n.length ≤ 10000 → (cl n).count 40 ≤ 16 → n.length ≤ 10000 ∧ (cl n).count 40 ≤ 31 ∧ ∀ sh : Sh, sh.wf ks ts → n = sh.txt → sh.size ≤ 60 := fun n h1 h2 => ⟨h1, by omega, fun sh hw e => by
    have h3 := count_inner hok sh hw
    rw [← e] at h3
    have := size_inner sh
    omega⟩
  have hS : ∀ k, (sg11.getD k "").length ≤ 5 ∧ (cl (sg11.getD k "")).count 40 ≤ 1 := fun k => by
    match k with
    | 0 | 1 | 2 | 3 | 4 | 5 | 6 | 7 | 8 | 9 | 10 => decide +kernel
    | k + 11 => exact (by decide +kernel : ("" : Str).length ≤ 5 ∧ (cl "").count 40 ≤ 1)
  obtain ⟨s1, s2⟩ := hS (pickI (n1 d s0.txt) 11)
  have L : ∀ i j, (sl (cl s0.txt) i j).length ≤ s0.txt.length := fun i j => by
    have := sl_len (cl s0.txt) i j
    rw [cl_len] at this
    exact this
  unfold nearO
  split
  · have c1 := pre_suf_count (cl s0.txt) (Nat.le_add_right (nA d s0.txt) (nW d s0.txt)) s0.txt.length
    have l1 := L 0 (nA d s0.txt)
    have l2 := L (nA d s0.txt + nW d s0.txt) s0.txt.length
    refine few _ ?_ ?_
    · show (sl (cl s0.txt) 0 (nA d s0.txt) ++ nS d s0.txt ++ sl (cl s0.txt) (nA d s0.txt + nW d s0.txt) s0.txt.length).length ≤ _
      rw [len_app, len_app]
      unfold nS
      omega
    · show (cl (sl (cl s0.txt) 0 (nA d s0.txt) ++ nS d s0.txt ++ sl (cl s0.txt) (nA d s0.txt + nW d s0.txt) s0.txt.length)).count 40 ≤ _
      rw [cl_app, cl_app, List.count_append, List.count_append]
      unfold nS
      omega
  · split
    · have c1 := pre_suf_count (cl s0.txt) (Nat.le_succ (nA d s0.txt)) s0.txt.length
      have l1 := L 0 (nA d s0.txt)
      have l2 := L (nA d s0.txt + 1) s0.txt.length
      refine few _ ?_ ?_
      · show (sl (cl s0.txt) 0 (nA d s0.txt) ++ sl (cl s0.txt) (nA d s0.txt + 1) s0.txt.length).length ≤ _
        rw [len_app]
        omega
      · show (cl (sl (cl s0.txt) 0 (nA d s0.txt) ++ sl (cl s0.txt) (nA d s0.txt + 1) s0.txt.length)).count 40 ≤ _
        rw [cl_app, List.count_append]
        have c1' : (cl (sl (cl s0.txt) 0 (nA d s0.txt))).count 40 + (cl (sl (cl s0.txt) (nA d s0.txt + 1) s0.txt.length)).count 40 ≤ (cl s0.txt).count 40 := c1
        omega
    · have h9 := pickI_lt (n3 d s0.txt) (n := 9) (by decide)
      show ((nine s0.txt).getD (pickI (n3 d s0.txt) 9) "").length ≤ _ ∧ _
      generalize pickI (n3 d s0.txt) 9 = k at *
      have f1 : (")" : Str).length = 1 ∧ (cl ")").count 40 = 0 := by decide +kernel
      have f2 : (" " : Str).length = 1 ∧ (cl " ").count 40 = 0 := by decide +kernel
      have f3 : ("both(" : Str).length = 5 ∧ (cl "both(").count 40 = 1 := by decide +kernel
      have f4 : ("tied(" : Str).length = 5 ∧ (cl "tied(").count 40 = 1 := by decide +kernel
      have f5 : (", any)" : Str).length = 6 ∧ (cl ", any)").count 40 = 0 := by decide +kernel
      have f6 : ("," : Str).length = 1 := by decide +kernel
      have f7 : ("tied" : Str).length = 4 := by decide +kernel
      match k, h9 with
      | 0, _ => exact few (s0.txt ++ ")") (by rw [len_app]; omega) (by rw [cl_app, List.count_append]; omega)
      | 1, _ => exact few (" " ++ s0.txt) (by rw [len_app]; omega) (by rw [cl_app, List.count_append]; omega)
      | 2, _ =>
        have := L 0 (s0.txt.length - 1)
        have h2 := sl_count (cl s0.txt) 0 (s0.txt.length - 1) 40
        exact few (sl (cl s0.txt) 0 (s0.txt.length - 1)) (by omega) (by omega)
      | 3, _ =>
        have h1 := TK.replace_len s0.txt ", " ","
        have h2 := replace_count (t := s0.txt) (y := ", ") (z := ",") (by decide +kernel) (by decide +kernel)
        rw [f6] at h1
        exact few (Txt.replace s0.txt ", " ",") (by omega) (by omega)
      | 4, _ =>
        have h1 := TK.replace_len s0.txt "both" "tied"
        have h2 := replace_count (t := s0.txt) (y := "both") (z := "tied") (by decide +kernel) (by decide +kernel)
        rw [f7] at h1
        exact few (Txt.replace s0.txt "both" "tied") (by omega) (by omega)
      | 5, _ => exact few "" (by decide +kernel) (by decide +kernel)
      | 6, _ =>
        refine ⟨?_, ?_, fun sh hw e => ?_⟩
        · show (s0.txt ++ s0.txt).length ≤ _
          rw [len_app]
          omega
        · show (cl (s0.txt ++ s0.txt)).count 40 ≤ _
          rw [cl_app, List.count_append]
          omega
        · have e : s0.txt ++ s0.txt = sh.txt := e
          by_cases hz : 0 < s0.inner
          · exact absurd e (no_twice hok h0 hw hz)
          · have h3 := count_inner hok sh hw
            rw [← e, cl_app, List.count_append] at h3
            have := size_inner sh
            omega
      | 7, _ => exact few (("both(" ++ s0.txt) ++ ", any)") (by rw [len_app, len_app]; omega) (by rw [cl_app, cl_app, List.count_append, List.count_append]; omega)
      | 8, _ => exact few (("tied(" ++ s0.txt) ++ ", any)") (by rw [len_app, len_app]; omega) (by rw [cl_app, cl_app, List.count_append, List.count_append]; omega)
end K2

/-! TkX -/
set_option Elab.async false
set_option linter.all false
set_option autoImplicit false
set_option maxRecDepth 100000
set_option maxHeartbeats 4000000
namespace Tk
open PySem PySem.Spec PyProof.Rows L2 LamX
/-! ### two arguments by name, the other way round -/
def gSw {α : Type} (us ws : List α) : List α := match us, ws with
  | [], [a, b] => [b, a]
  | _, _ => []
theorem kb_of {K : PySem.W.Frag} {x : Str} {st : Stmt} {f : Addr} {fd : FuncData} {p1 p2 : Str} (F : Fun K x x st f fd)
    (h : ∀ (kV doc pm : Value) (an : Option Addr) (cdv ct a b : Value), bindArgs (PySem.W.fnOf x x (defArgs st) (defBody st) (defScope st) .none kV doc pm an cdv ct) ⟨[], [(p2, a), (p1, b)]⟩ = pure [(p1, b), (p2, a)]) : KBinds K fd [p1, p2] [p2, p1] gSw gSw := by
  obtain ⟨oc, od, kV, doc, pm, an, cdv, ct, osl, rfl, lk, hcd⟩ := F.ex
  refine ⟨fun s us ws _ hl => ?_, fun {vs us zs ws} r1 r2 => ?_⟩
  · match us, ws, hl with
    | [], [a, b], _ => exact .of_eq (h kV doc pm an cdv ct a b)
  · cases r1 with
    | cons _ _ => exact .nil
    | nil =>
      cases r2 with
      | nil => exact .nil
      | cons r r2 =>
        cases r2 with
        | nil => exact .nil
        | cons r' r2 =>
          cases r2 with
          | nil => exact .cons r' (.cons r .nil)
          | cons _ _ => exact .nil
structure CalK (P : Program) (w : World) (K : PySem.W.Frag) (mg : Str → Option Value) (base : Heap) (x : Str) (k : Nat) (ps ks : List Str) (sp : Sp) : Prop where
  ex : ∃ f fd, mg x = some (.ref f) ∧ PySem.W.keepIn K (.ref f) = true ∧ FnOk P w K mg base (L2.CX P w) k f fd ps sp ∧ KBinds K fd ps ks gSw gSw
theorem CalK.mono {P : Program} {w : World} {K : PySem.W.Frag} {mg : Str → Option Value} {base : Heap} {x : Str} {j k : Nat} {ps ks : List Str} {sp : Sp} (h : CalK P w K mg base x j ps ks sp) (l : j ≤ k) : CalK P w K mg base x k ps ks sp := by
  obtain ⟨f, fd, a, b, c, d⟩ := h.ex
  exact ⟨f, fd, a, b, c.mono l, d⟩
section
variable {X : Cx} {k : Nat} {ps ks : List Str} {sp : Sp} {x : Str} {xp pos : Pos} {kws : List Keyword} {tk : TA} {E : XK}
theorem pe_calK (h : CalK X.prog X.w X.K X.mg X.base x k ps ks sp) (hr : Room k X.A) (hx : Passes (L2.CX X.prog X.w) X E) (hkw : PK X kws tk) (hg : Gl X x := by rfl) (hall : (backToKw pos (keywordEach kws X.env)).all (·.1.isSome) = true := by rfl)
    (hks : (backToKw pos (keywordEach kws X.env)).filterMap (·.1) = ks := by rfl) (hdb : (x == ("__debug__" : Str)) = false := by decide) (hpl : ((backTo pos (starEach [] X.env)).any (·.1) || (backToKw pos (keywordEach kws X.env)).any (·.1.isNone)) = false := by rfl) :
    PE X (.Call (.Name x xp) [] kws pos) (tCallK sp gSw E tNil tk) := by
  obtain ⟨f, fd, hm, hk, F, hb⟩ := h.ex
  refine ⟨fun pins s σ H Q I q => wpAny_Call_Name_kw (ld_glob I hg hm ?_ hdb)⟩
  refine PySem.W.callWith_KW0 (h₀ := X.base) I.ok.mod.kin hk hall (thn (hkw.run pos pins s σ H _ I q) fun ws s2 ⟨zs, H2, I2, rz, q2⟩ => ⟨I2.kIn, ?_⟩) hpl
  rw [hks]
  exact run_fnk (us := []) (vs := []) F hr hb hx I2 .nil rz q2
end
theorem ev_callK {c : Cn} {S S1 : Stt} {ta : TA} {x y z : Dx} {m : List Dx → Res → Prop} {E : XK} (h : EvA c S ta [x, y] S1) (hm : m [y, x] (.ok z)) : EvS c S (tCallK (spF c.K c.C m) gSw E tNil ta) z S1 := fun A σ H L Q q => h A σ H L _ fun vs H1 L1 e1 r1 => by
  cases r1 with
  | cons r1 rr =>
    cases rr with
    | cons r2 rr =>
      cases rr
      exact ⟨fun b => c.P b ∨ S1.owns A b, [y, x], .ok z, fun b hb => L1.hidAlive hb, .cons r2 (.cons r1 .nil), hm, fun v H2 s2 r2 => by
        obtain ⟨L2, e2⟩ := L1.grow s2
        exact q v H2 L2 (e1.trans e2) r2⟩
/-! ### draws beside other hidden things -/
structure DrX (c : Cn) (a la ca : Addr) (cells : List Int) : Prop where
  ma : c.Mt a
  ml : c.Mt la
  np : ¬ c.P ca
  h0 : c.H0 ca = some (.lst (cells.map V.int))
def WX_ (a la ca : Addr) (d : Dst) (X : Hp → Prop) : Hp → Prop := fun H => Drw a la ca d H ∧ X H
/-- what stands beside the draws stays while they change -/
structure Fr (c : Cn) (a la ca : Addr) (X : Hp → Prop) : Prop where
  fr : ∀ d H H', (∀ b o, b ≠ a → b ≠ la → H b = some o → H' b = some o) → Drw a la ca d H → X H → X H'
  st : ∀ H H', Kp c.P H H' → X H → X H'
theorem ev_callDX {c : Cn} {S : Stt} {G : List (Option En)} {ta : TA} {xs : List Dx} {z : Dx} {a la ca : Addr} {d d' : Dst} {X : Hp → Prop} {m : Dst → List Dx → Dx → Dst → Prop} {E : XK} (D : DrX c a la ca d.cells) (F : Fr c a la ca X) (h : EvA c S ta (.raw (.ref a) :: xs) ⟨WX_ a la ca d X, G⟩) (hm : m d xs z d') :
    EvS c S (tCall (spD c.K c.C m) [] E ta) z ⟨WX_ a la ca d' X, G⟩ := fun A σ H L Q q => h A σ H L _ fun vs H1 L1 e1 r1 => by
  cases r1 with
  | cons r0 r1 =>
    cases r0
    obtain ⟨⟨w1, w2⟩, w3⟩ := L1.wk
    have seen : ¬ (c.P ca ∨ Stt.owns ⟨WX_ a la ca d X, G⟩ A ca) := fun z => by
      rcases z with z | ⟨j, ds, e, rfl⟩
      · exact D.np z
      · obtain ⟨_, e2, _⟩ := L1.own j ds e
        rw [D.h0] at e2
        cases e2
    have nm : ¬ c.Mt ca := fun z => D.np (c.mp _ z)
    refine ⟨a, la, ca, d, fun b => c.P b ∨ Stt.owns ⟨WX_ a la ca d X, G⟩ A b, _, xs, z, d', by rw [List.append_nil], ⟨w1, w2⟩, .inl (c.mp _ D.ma), .inl (c.mp _ D.ml), seen, L1.sm ca _ nm D.h0, fun b hb => L1.hidAlive hb, r1, hm, fun v H' hs hd rv => ?_⟩
    obtain ⟨L2, s2⟩ := L1.mut (H' := H') (W' := WX_ a la ca d' X) (fun b o m e => hs b o (fun z => m (z ▸ D.ma)) (fun z => m (z ▸ D.ml)) e) (fun b m z => by
      by_cases h1 : b = a
      · rw [h1, hd.1] at z
        cases z
      · by_cases h2 : b = la
        · rw [h2, hd.2] at z
          cases z
        · cases e : H1 b with
          | none => exact L1.al b (c.mp b m) e
          | some o =>
            rw [hs b o h1 h2 e] at z
            cases z) ⟨hd, F.fr d H1 H' hs ⟨w1, w2⟩ w3⟩ (fun H H' k ⟨h1, h2⟩ => ⟨Drw.st (c.mp _ D.ma) (c.mp _ D.ml) H H' k h1, F.st H H' k h2⟩)
    exact q v H' L2 (e1.trans s2) rv
/-- a table beside the draws -/
theorem tab_fr {c : Cn} {a la ca p : Addr} {q : Str} (hp : c.P p) : Fr c a la ca (fun H => TabS H p q) where
  fr := fun d H H' hs ⟨w1, w2⟩ ⟨ps, e, tri, among⟩ => by
    have na : ∀ {b : Addr} {o : HO}, H b = some o → (∀ k, o ≠ .dK k) → (∀ l, o ≠ .lst l) → H' b = some o := fun {b o} e h1 h2 => hs b o (fun z => h1 _ (by rw [z, w1] at e; exact (Option.some.inj e).symm)) (fun z => h2 _ (by rw [z, w2] at e; exact (Option.some.inj e).symm)) e
    refine ⟨ps, na e (fun _ z => by cases z) (fun _ z => by cases z), tri, fun pos cv hc => ?_⟩
    obtain ⟨c0, e1, e2⟩ := among pos cv hc
    exact ⟨c0, e1, na e2 (fun _ z => by unfold CodeO at z; cases z) (fun _ z => by unfold CodeO at z; cases z)⟩
  st := fun H H' k ⟨ps, e, tri, among⟩ => by
    refine ⟨ps, (k.p p hp).trans e, tri, fun pos cv hc => ?_⟩
    obtain ⟨c0, e1, e2⟩ := among pos cv hc
    exact ⟨c0, e1, k.n _ _ (fun _ z => by unfold CodeO at z; cases z) e2⟩
/-! ### a def whose code object is known -/
section
variable {P : Program} {w : World} {K : PySem.W.Frag} {mg : Str → Option Value} {base : Heap}
theorem okC {x qual : Str} {st : Stmt} {f c0 : Addr} {fd : FuncData} {N ps : List Str} {k : Nat} {sp : Sp} (F : Fun K x qual st f fd) (hc : fd.code = .ref c0) (S : FnScope N ps (defScope st)) (len : ∀ vs H Q E, sp vs H Q E → vs.length = ps.length)
    (hbody : ∀ (A : Around) (outer : List Env) (s : Shared) (H : Hp) (vs : List V) (Q : VK) (E : XK), Room k (A.deeper (envOfC qual (defScope st) s.heap.objs.size f (.ref c0))) → sp vs H Q E →
      ∃ t, PSs (cxOf (L2.CX P w) P w K mg base N qual (defScope st) f (.ref c0) A outer s H E) (defBody st) t ∧ t { nx := fun _ H' => Q .non H', rt := Q } (L2.start N vs) H) : FnOk P w K mg base (L2.CX P w) (k + 1) f fd ps sp := by
  obtain ⟨oc, od, kV, doc, pm, an, cdv, ct, osl, rfl, lk, hcd⟩ := F.ex
  obtain rfl : cdv = .ref c0 := hc
  exact fn_of lk hcd S len fun A outer s H vs Q E hr hsp => hbody A outer s H vs Q E hr hsp
end
section
variable {c : Cn} {S S1 S2 : Stt} {ta tb : TE} {x y : Dx} {es : List PyData} {i j : Nat} {ts : TS} {W1 W2 : Hp → Prop}
theorem run_rtW (h : RunS c S ts (.rt x W1)) (hw : ∀ H, W1 H → W2 H) : RunS c S ts (.rt x W2) := fun A σ H L D w => h A σ H L D fun v H' lf rv => w v H' ⟨lf.sm, lf.al, hw _ lf.wk⟩ rv
/-- a, b = x, y, not by swaps -/
theorem run_asgT2 (h1 : EvS c S ta x S1) (h2 : EvS c S1 tb y S2) : RunS c S (tAsg (tTup (tCons ta (tCons tb tNil))) (gTup c.K 2 (gCons (gName i) (gCons (gName j) gNil)))) (.nx ((S2.put i x).put j y)) := fun A σ H L D w => h1 A σ H L _ fun v H1 L1 e1 r1 => h2 A σ H1 L1 _ fun u H2 L2 e2 r2 =>
  ⟨(by decide : 2 ≤ sizeLine), fun p hp => by
    obtain ⟨L3, e3⟩ := L2.grow (same_new (o := .tup [v, u]) hp)
    obtain ⟨L4, s4⟩ := L3.put (i := i) ((r1.mono e2).mono e3)
    obtain ⟨L5, s5⟩ := L4.put (i := j) ((r2.mono e3).mono s4)
    exact ⟨p, [v, u], rfl, .inl (.inl upd_same), rfl, v, [u], rfl, u, [], rfl, rfl, w A _ _ L5 ((((e1.trans e2).trans e3).trans s4).trans s5)⟩⟩
/-- .. the second one a new list -/
theorem run_asgT2O (h1 : EvS c S ta x S1) (h2 : EvO c S1 tb es S2) (hj : j < c.n) : RunS c S (tAsg (tTup (tCons ta (tCons tb tNil))) (gTup c.K 2 (gCons (gName i) (gCons (gName j) gNil)))) (.nx ((S2.put i x).own j es)) := fun A σ H L D w => h1 A σ H L _ fun v H1 L1 e1 r1 => h2 A σ H1 L1 _ fun p xs H2 L2 e2 d2 hp =>
  ⟨(by decide : 2 ≤ sizeLine), fun p2 hp2 => by
    obtain ⟨L3, s3⟩ := L2.put (i := i) (r1.mono e2)
    obtain ⟨L4, s4⟩ := L3.mkOwn (i := j) (by have := L3.le; omega) (d2.mono s3) hp
    obtain ⟨L5, s5⟩ := L4.grow (same_new (o := .tup [v, .ref p]) hp2)
    exact ⟨p2, [v, .ref p], rfl, .inl (.inl upd_same), rfl, v, [.ref p], rfl, .ref p, [], rfl, rfl, w _ _ _ L5 ((((e1.trans e2).trans s3).trans s4).trans s5)⟩⟩
end
end Tk

/-! K2x -/
set_option Elab.async false
set_option linter.all false
set_option autoImplicit false
set_option maxRecDepth 100000
set_option maxHeartbeats 4000000

namespace K2
open PySem PySem.Spec PyProof.Rows L2 Tk
theorem qual_cx {CX : CXT} {P : Program} {w : World} {K : PySem.W.Frag} {mg : Str → Option Value} {base : Heap} {N : List Str} {qual : Str} {sc : Scope} {f : Addr} {cdv : Value} {A : Around} {outer : List Env} {s : Shared} {H : Hp} {E : XK} : (cxOf CX P w K mg base N qual sc f cdv A outer s H E).env.qual = qual ++ ".<locals>." := rfl
def qR : Str := (("_law_right" : Str) ++ (".<locals>." : Str)) ++ ("<lambda>" : Str)
theorem pxLam {X : Cx} {A : Around} {outer : List Env} {s : Shared} {H : Hp} {E : XK} {scope : Scope} {f c' : Addr} : Passes (L2.CX (LamX.lamCx X A outer s H E scope f c').prog (LamX.lamCx X A outer s H E scope f c').w) (LamX.lamCx X A outer s H E scope f c') E := passes_call (takes_of rfl rfl rfl rfl) fun _ _ _ _ h => h
abbrev sRT : Stmt := topS 53
theorem scRT : FnScope ["draw", "told", "words", "shape", "text", "lap", "near", "found", "due", "error"] ["draw"] (defScope sRT) := ⟨rfl, rfl, rfl, by decide +kernel, rfl, by decide +kernel, by decide +kernel⟩
section
variable {P : Program} {w : World} {K : PySem.W.Frag} {mg : Str → Option Value} {base : Heap} {C : Addr}

theorem walk_rt {f c0 p DT DW CE gk : Addr} {fd fdk : FuncData} {N : Nat} (F : Fun K "_law_right" "_law_right" sRT f fd) (M : MT P w K mg base C) (XB : XT K mg "BadText" DT)
    {mTold mWo mSh mTx mSay mSt mRs mNt mRd : Sp}
    (h__law_told : Cal P w K mg base "_law_told" 126 ["draw", "most"] mTold) (h__law_words_of : Cal P w K mg base "_law_words_of" 126 ["told"] mWo) (h__law_shape : Cal P w K mg base "_law_shape" 126 ["draw", "told", "deep"] mSh) (h__law_text : Cal P w K mg base "_law_text" 126 ["shape"] mTx)
    (h__law_says : Cal P w K mg base "_law_says" 126 ["told", "due"] mSay) (h_shape_text : Cal P w K mg base "shape_text" 126 ["words", "shape"] mSt) (h_shape_textK : CalK P w K mg base "shape_text" 126 ["words", "shape"] ["shape", "words"] mSt) (h_read_shape : Cal P w K mg base "read_shape" 126 ["words", "text"] mRs) (h_read_shapeK : CalK P w K mg base "read_shape" 126 ["words", "text"] ["text", "words"] mRs)
    (h__law_near_text : Cal P w K mg base "_law_near_text" 126 ["draw", "text"] mNt) (h__law_read : Cal P w K mg base "_law_read" 126 ["told", "text"] mRd) (DC : Df K mg "_law_caught" sCA ["work"] gk fdk) (hKE : mg "KindError" = some (.ref CE)) (TB : LamX.TabB base mg c0 p)
    {A : Around} {outer : List Env} {s : Shared} {H : Hp} {E : XK} (hr : Room 129 (A.deeper (envOfC "_law_right" (defScope sRT) s.heap.objs.size f (.ref c0)))) : ∃ t, PSs (cxOf (L2.CX P w) P w K mg base ["draw", "told", "words", "shape", "text", "lap", "near", "found", "due", "error"] "_law_right" (defScope sRT) f (.ref c0) A outer s H E) (defBody sRT) t := by
  obtain ⟨oc, od, kV, doc, pm, an, cdv, ct, osl, rfl, lkg, hcg⟩ := DC.F.ex
  have hr1 : Room 126 _ := hr.mono (by decide)
  have hr2 : Room 128 _ := hr.mono (by decide)
  exact ⟨_, (pss_cons (ps_set (i := 1) scRT.nd rfl (.inl rfl) (pe_cal h__law_told hr1 pxE (pa_cons (pv 0) (pa_cons pe_int pa_nil))))
      (pss_cons (ps_asg (pe_tup (pa_cons (pe_cal h__law_words_of hr1 pxE (pa_cons (pv 1) pa_nil)) (pa_cons (pe_cal h__law_shape hr1 pxE (pa_cons (pv 0) (pa_cons (pv 1) (pa_cons pe_int pa_nil)))) pa_nil))) (pg_tup (n := 2) rfl (pgs_cons (pg_name (i := 2) scRT.nd rfl (.inr rfl)) (pgs_cons (pg_name (i := 3) scRT.nd rfl (.inl rfl)) pgs_nil))))
      (pss_cons (ps_set (i := 4) scRT.nd rfl (.inl rfl) (pe_cal h__law_text hr1 pxE (pa_cons (pv 3) pa_nil)))
      (pss_cons (ps_if (pt_not (pt_val (pe_cal h__law_says hr1 pxE (pa_cons (pe_lst (pa_cons (pe_cal h_shape_text hr1 pxE (pa_cons (pv 2) (pa_cons (pv 3) pa_nil))) (pa_cons (pe_calK h_shape_textK hr1 pxE (pk_cons (pv 3) (pk_cons (pv 2) pk_nil))) (pa_cons (pe_cal h_read_shape hr1 pxE (pa_cons (pv 2) (pa_cons (pv 4) pa_nil))) (pa_cons (pe_calK h_read_shapeK hr1 pxE (pk_cons (pv 4) (pk_cons (pv 2) pk_nil))) pa_nil))))) (pa_cons (pe_lst (pa_cons (pv 4) (pa_cons (pv 4) (pa_cons (pv 3) (pa_cons (pv 3) pa_nil))))) pa_nil))))) (pss_one (ps_ret pe_bl)) pss_nil)
      (pss_cons (ps_for pown rfl (pi_range1 (by rfl) (M.B "range" (by decide)) (pa_cons pe_int pa_nil)) (pg_name (i := 5) scRT.nd rfl (.inl rfl)) (pss_cons (ps_asg (pe_tup (pa_cons (pe_cal h__law_near_text hr1 pxE (pa_cons (pv 0) (pa_cons (pv 4) pa_nil))) (pa_cons (pe_lst pa_nil) pa_nil))) (pg_tup (n := 2) rfl (pgs_cons (pg_name (i := 6) scRT.nd rfl (.inr rfl)) (pgs_cons (pg_name (i := 7) scRT.nd rfl (.inr rfl)) pgs_nil))))
      (pss_cons (ps_set (i := 8) scRT.nd rfl (.inl rfl) (pe_cal h__law_read hr1 pxE (pa_cons (pv 1) (pa_cons (pv 6) pa_nil))))
      (pss_cons (ps_set (i := 9) scRT.nd rfl (.inl rfl) (pe_lamP (x := "_law_caught") (a := "work") (Ng := ["work", "caught", "error"]) (p := p) (q := qR) (k := 126) (t := fun E => tBM K "list" rAppend (tVar 7) (tCons (tCall mRs [] E (tCons (tVar 2) (tCons (tVar 6) tNil))) tNil)) (by rfl) DC.g DC.F.kp lkg hcg DC.b scCA rfl (.inl rfl) (caught_gives hKE) TB (by rfl) (by exact (congrArg (fun z : Str => z ++ ("<lambda>" : Str)) qual_cx).symm) hr2 (LamX.lamS_by (by rfl)) (by rfl) (fun _ _ _ _ _ => rfl) (fun A2 outer2 s2 H2 E2 f2 c2 hr3 => by exact pe_bm PySem.F.plainAttrs_list PySem.F.slot_list_append PySem.F.type_list_append mt_append (pv 7) (pa_cons (pe_cal h_read_shape hr3 pxLam (pa_cons (pv 2) (pa_cons (pv 6) pa_nil))) pa_nil))))
      (pss_one (ps_if (PW.pt (pw_or (PW.pt (pw_and (pt_cmpR op_isN1 (pv 8) pe_non (nomark _)) (pw_and1 (pt_not (pt_val (pe_callB call_isX (by rfl) (M.B "isinstance" (by decide)) boot_isinstance (pa_cons (pv 9) (pa_cons (pe_glob (v := .ref DT) (by rfl) XB.g rfl) pa_nil)))))))) (pw_or1 (PW.pt (pw_and (pt_cmpR op_notN1 (pv 8) pe_non (nomark _)) (pw_and1 (PW.pt (pw_or (pt_cmpR op_notN1 (pv 9) pe_non (nomark _)) (pw_or1 (pt_not (pt_val (pe_cal h__law_says hr1 pxE (pa_cons (pe_ix ix_seq (pv 7) pe_int (fun _ _ => rfl)) (pa_cons (pv 8) pa_nil)))))))))))))) (pss_one (ps_ret pe_bl)) pss_nil))))))
      (pss_one (ps_ret pe_bl)))))))⟩
end
end K2

/-! K2y -/
set_option Elab.async false
set_option linter.all false
set_option autoImplicit false
set_option maxRecDepth 100000
set_option maxHeartbeats 4000000

namespace K2
open PySem PySem.Spec PyProof.Rows L2 Tk
theorem nd_dat : ∀ sh : Sh, nd sh.dat ≤ 3 * sh.size
  | .any | .none => by simp [Sh.dat, nd, ndAll, Sh.size]
  | .kind k => by simp [Sh.dat, nd, ndAll, Sh.size]
  | .both a b => by
    have := nd_dat a
    have := nd_dat b
    simp [Sh.dat, nd, ndAll, Sh.size]
    omega
  | .tied t a => by
    have := nd_dat a
    simp [Sh.dat, nd, ndAll, Sh.size]
    omega
theorem strOk_app {x y : Str} (hx : PyData.strOk x = true) (hy : PyData.strOk y = true) : PyData.strOk (x ++ y) = true := by
  unfold PyData.strOk at *
  rw [← Array.all_toList] at *
  have e : (x ++ y).cps.toList = x.cps.toList ++ y.cps.toList := cl_app x y
  rw [e, List.all_append, hx, hy]
  rfl
theorem txt_ok {ks ts : List Str} (hok : Wok ks ts) : ∀ sh : Sh, sh.wf ks ts → PyData.strOk sh.txt = true
  | .any, _ => (by decide +kernel : PyData.strOk "any" = true)
  | .none, _ => (by decide +kernel : PyData.strOk "none" = true)
  | .kind k, h => pw_ok (hok.1 k h)
  | .both a b, h => strOk_app (strOk_app (strOk_app (by decide +kernel) (by decide +kernel)) (strOk_app (strOk_app (txt_ok hok a h.1) (by decide +kernel)) (txt_ok hok b h.2))) (by decide +kernel)
  | .tied t a, h => strOk_app (strOk_app (strOk_app (by decide +kernel) (by decide +kernel)) (strOk_app (strOk_app (pw_ok (hok.2 t h.1)) (by decide +kernel)) (txt_ok hok a h.2))) (by decide +kernel)
theorem ev_ixO {c : Cn} {S : Stt} {i : Nat} {ds : List PyData} {d : PyData} {j : Int} (k : Nat) (hn : i < c.n) (hi : S.G[i]? = some (some (En.own ds))) (hd : ds[k]? = some d) (hj : j = (k : Int) := by rfl) : EvS c S (tOp (rIx c.K) (tVar i) (tC (.int j))) (.d d) S := fun A σ H L Q q => by
  obtain ⟨e1, e2, e3, xs, e4, e5⟩ := L.own i ds hi
  obtain ⟨u, u1, u2⟩ := e5.get hd
  refine ⟨_, e1 hn, .inl ⟨_, xs, j, u, rfl, rfl, .inl (.inl e4), ?_, q _ H L (Same.refl _) u2⟩⟩
  unfold atI
  rw [e5.len, hj, ixN_nat (List.getElem?_eq_some_iff.mp hd).1]
  exact u1
theorem wok_of {ks ts : List Str} (g : GoodW ks ts) : Wok ks ts := ⟨g.kp, g.tp⟩
def spR (K : PySem.W.Frag) (p : Addr) (q : Str) : Sp := fun vs H Q E => ∃ (a la ca : Addr) (d : Dst) (R : Addr → Prop), vs = [.ref a] ∧ WX_ a la ca d (fun H => LamX.TabS H p q) H ∧ R a ∧ R la ∧ R p ∧ ¬ R ca ∧ H ca = some (.lst (d.cells.map .int)) ∧ (∀ b, R b → H b ≠ none) ∧
  ∀ d' H', d'.cells = d.cells → (∀ b o, b ≠ a → b ≠ la → b ≠ p → H b = some o → H' b = some o) → WX_ a la ca d' (fun H => LamX.TabS H p q) H' → Q (.bl true) H'
abbrev rtS (a la ca p : Addr) (d : Dst) (ks ts : List Str) (sh : Sh) (e5 e6 e7 e8 e9 : Option En) : Stt :=
  ⟨WX_ a la ca d (fun H => LamX.TabS H p qR), [some (.x (.raw (.ref a))), some (.x (.d (toldD ks ts))), some (.x (.w ks ts)), some (.x (.d sh.dat)), some (.x (.d (.str sh.txt))), e5, e6, e7, e8, e9]⟩
section
variable {P : Program} {w : World} {K : PySem.W.Frag} {mg : Str → Option Value} {base : Heap} {C : Addr}

theorem rt_end {a la ca p : Addr} {d : Dst} {H : Hp} {R : Addr → Prop} {Q : VK} {q : Str} {t : TS} (hW : WX_ a la ca d (fun H => LamX.TabS H p q) H) (ra : R a) (rl : R la) (rp : R p) (rc : ¬ R ca) (hc : H ca = some (.lst (d.cells.map .int))) (al : ∀ b, R b → H b ≠ none)
    (hq : ∀ (d' : Dst) (H' : Hp), d'.cells = d.cells → (∀ b o, b ≠ a → b ≠ la → b ≠ p → H b = some o → H' b = some o) → WX_ a la ca d' (fun H => LamX.TabS H p q) H' → Q (.bl true) H')
    (run : ∀ c : Cn, c.K = K → c.C = C → c.n = 10 → c.Mt p → c.P p → (∀ d' : Dst, d'.cells = d.cells → DrX c a la ca d'.cells) → RunS c ⟨WX_ a la ca d (fun H => LamX.TabS H p q), (S0 10 [.raw (.ref a)]).G⟩ t (.rt (.d (.bool true)) fun H => ∃ d' : Dst, d'.cells = d.cells ∧ WX_ a la ca d' (fun H => LamX.TabS H p q) H)) :
    t { nx := fun _ H' => Q .non H', rt := Q } (L2.start ["draw", "told", "words", "shape", "text", "lap", "near", "found", "due", "error"] [.ref a]) H := by
  have mp : ∀ b, (b = a ∨ b = la ∨ b = p) → R b := fun b hb => by
    rcases hb with rfl | rfl | rfl <;> assumption
  have ms : ∀ H H' : Hp, Kp R H H' → WX_ a la ca d (fun H => LamX.TabS H p q) H → WX_ a la ca d (fun H => LamX.TabS H p q) H' := fun H0 H' k ⟨h1, h2⟩ => ⟨Drw.st ra rl H0 H' k h1, (tab_fr (c := ⟨K, C, H, R, fun b => b = a ∨ b = la ∨ b = p, mp, 10⟩) (a := a) (la := la) (ca := ca) (q := q) rp).st H0 H' k h2⟩
  have L := sl_start (K := K) (C := C) (N := ["draw", "told", "words", "shape", "text", "lap", "near", "found", "due", "error"]) (vs := [.ref a]) (xs := [.raw (.ref a)]) (H := H) (R := R) (Mt := fun b => b = a ∨ b = la ∨ b = p) (W := WX_ a la ca d (fun H => LamX.TabS H p q)) mp (.cons rfl .nil) al (show 1 ≤ 10 by decide) hW ms
  exact run ⟨K, C, H, R, fun b => b = a ∨ b = la ∨ b = p, mp, 10⟩ rfl rfl rfl (.inr (.inr rfl)) rp (fun d' e => ⟨.inl rfl, .inr (.inl rfl), rc, by rw [e]; exact hc⟩) _ _ _ L _ fun v H' lf rv => by
      obtain ⟨d', e', w'⟩ := lf.wk
      have hv : v = V.bl true := Dt.bl_inv rv
      rw [hv]
      exact hq d' H' e' (fun b o n1 n2 n3 e => lf.sm b o (fun z => by
        rcases z with z | z | z
        · exact n1 z
        · exact n2 z
        · exact n3 z) e) w'
theorem ok_rt {f c0 p DW DS DT CE gk : Addr} {fd fdk : FuncData} (F : Fun K "_law_right" "_law_right" sRT f fd) (hcode : fd.code = .ref c0) (M : MT P w K mg base C) (XB : XT K mg "BadText" DT) (XC : ExcC K DT) (hXE : PySem.W.exmOne K (.ref DT) (.ref CE) = some true)
    (h__law_told : Cal P w K mg base "_law_told" 126 ["draw", "most"] (spD K C mTO)) (h__law_words_of : Cal P w K mg base "_law_words_of" 126 ["told"] (spF K C mWO)) (h__law_shape : Cal P w K mg base "_law_shape" 126 ["draw", "told", "deep"] (spD K C (mSP 5))) (h__law_text : Cal P w K mg base "_law_text" 126 ["shape"] (spF K C (mTB 60)))
    (h__law_says : Cal P w K mg base "_law_says" 126 ["told", "due"] (spF K C mLY)) (h_shape_text : Cal P w K mg base "shape_text" 126 ["words", "shape"] (spF K C (mST DW DS))) (h_shape_textK : CalK P w K mg base "shape_text" 126 ["words", "shape"] ["shape", "words"] (spF K C (mST DW DS))) (h_read_shape : Cal P w K mg base "read_shape" 126 ["words", "text"] (spF K C (mRS DW DT))) (h_read_shapeK : CalK P w K mg base "read_shape" 126 ["words", "text"] ["text", "words"] (spF K C (mRS DW DT)))
    (h__law_near_text : Cal P w K mg base "_law_near_text" 126 ["draw", "text"] (spD K C mNT)) (h__law_read : Cal P w K mg base "_law_read" 126 ["told", "text"] (spF K C (mLR 60))) (DC : Df K mg "_law_caught" sCA ["work"] gk fdk) (hKE : mg "KindError" = some (.ref CE)) (TB : LamX.TabB base mg c0 p) :
    FnOk P w K mg base (L2.CX P w) 130 f fd ["draw"] (spR K p qR) := by
  refine okC F hcode scRT (fun vs H Q E ⟨_, _, _, _, _, h, _⟩ => by rw [h]; rfl) fun A outer s H vs Q E hr ⟨a, la, ca, d, R, h1, hW, ra, rl, rp, rc, hc, al, hq⟩ => ?_
  subst h1
  obtain ⟨oc, od, kV, doc, pm, an, cdv, ct, osl, rfl, lkg, hcg⟩ := DC.F.ex
  have hr1 : Room 126 _ := hr.mono (by decide)
  have hr2 : Room 128 _ := hr.mono (by decide)
  refine ⟨_, (pss_cons (ps_set (i := 1) scRT.nd rfl (.inl rfl) (pe_cal h__law_told hr1 pxE (pa_cons (pv 0) (pa_cons pe_int pa_nil))))
      (pss_cons (ps_asg (pe_tup (pa_cons (pe_cal h__law_words_of hr1 pxE (pa_cons (pv 1) pa_nil)) (pa_cons (pe_cal h__law_shape hr1 pxE (pa_cons (pv 0) (pa_cons (pv 1) (pa_cons pe_int pa_nil)))) pa_nil))) (pg_tup (n := 2) rfl (pgs_cons (pg_name (i := 2) scRT.nd rfl (.inr rfl)) (pgs_cons (pg_name (i := 3) scRT.nd rfl (.inl rfl)) pgs_nil))))
      (pss_cons (ps_set (i := 4) scRT.nd rfl (.inl rfl) (pe_cal h__law_text hr1 pxE (pa_cons (pv 3) pa_nil)))
      (pss_cons (ps_if (pt_not (pt_val (pe_cal h__law_says hr1 pxE (pa_cons (pe_lst (pa_cons (pe_cal h_shape_text hr1 pxE (pa_cons (pv 2) (pa_cons (pv 3) pa_nil))) (pa_cons (pe_calK h_shape_textK hr1 pxE (pk_cons (pv 3) (pk_cons (pv 2) pk_nil))) (pa_cons (pe_cal h_read_shape hr1 pxE (pa_cons (pv 2) (pa_cons (pv 4) pa_nil))) (pa_cons (pe_calK h_read_shapeK hr1 pxE (pk_cons (pv 4) (pk_cons (pv 2) pk_nil))) pa_nil))))) (pa_cons (pe_lst (pa_cons (pv 4) (pa_cons (pv 4) (pa_cons (pv 3) (pa_cons (pv 3) pa_nil))))) pa_nil))))) (pss_one (ps_ret pe_bl)) pss_nil)
      (pss_cons (ps_for pown rfl (pi_range1 (by rfl) (M.B "range" (by decide)) (pa_cons pe_int pa_nil)) (pg_name (i := 5) scRT.nd rfl (.inl rfl)) (pss_cons (ps_asg (pe_tup (pa_cons (pe_cal h__law_near_text hr1 pxE (pa_cons (pv 0) (pa_cons (pv 4) pa_nil))) (pa_cons (pe_lst pa_nil) pa_nil))) (pg_tup (n := 2) rfl (pgs_cons (pg_name (i := 6) scRT.nd rfl (.inr rfl)) (pgs_cons (pg_name (i := 7) scRT.nd rfl (.inr rfl)) pgs_nil))))
      (pss_cons (ps_set (i := 8) scRT.nd rfl (.inl rfl) (pe_cal h__law_read hr1 pxE (pa_cons (pv 1) (pa_cons (pv 6) pa_nil))))
      (pss_cons (ps_set (i := 9) scRT.nd rfl (.inl rfl) (pe_lamP (x := "_law_caught") (a := "work") (Ng := ["work", "caught", "error"]) (p := p) (q := qR) (k := 126) (t := fun E => tBM K "list" rAppend (tVar 7) (tCons (tCall (spF K C (mRS DW DT)) [] E (tCons (tVar 2) (tCons (tVar 6) tNil))) tNil)) (by rfl) DC.g DC.F.kp lkg hcg DC.b scCA rfl (.inl rfl) (caught_gives hKE) TB (by rfl) (by exact (congrArg (fun z : Str => z ++ ("<lambda>" : Str)) qual_cx).symm) hr2 (LamX.lamS_by (by rfl)) (by rfl) (fun _ _ _ _ _ => rfl) (fun A2 outer2 s2 H2 E2 f2 c2 hr3 => by exact pe_bm PySem.F.plainAttrs_list PySem.F.slot_list_append PySem.F.type_list_append mt_append (pv 7) (pa_cons (pe_cal h_read_shape hr3 pxLam (pa_cons (pv 2) (pa_cons (pv 6) pa_nil))) pa_nil))))
      (pss_one (ps_if (PW.pt (pw_or (PW.pt (pw_and (pt_cmpR op_isN1 (pv 8) pe_non (nomark _)) (pw_and1 (pt_not (pt_val (pe_callB call_isX (by rfl) (M.B "isinstance" (by decide)) boot_isinstance (pa_cons (pv 9) (pa_cons (pe_glob (v := .ref DT) (by rfl) XB.g rfl) pa_nil)))))))) (pw_or1 (PW.pt (pw_and (pt_cmpR op_notN1 (pv 8) pe_non (nomark _)) (pw_and1 (PW.pt (pw_or (pt_cmpR op_notN1 (pv 9) pe_non (nomark _)) (pw_or1 (pt_not (pt_val (pe_cal h__law_says hr1 pxE (pa_cons (pe_ix ix_seq (pv 7) pe_int (fun _ _ => rfl)) (pa_cons (pv 8) pa_nil)))))))))))))) (pss_one (ps_ret pe_bl)) pss_nil))))))
      (pss_one (ps_ret pe_bl))))))), ?_⟩
  refine rt_end (K := K) (C := C) hW ra rl rp rc hc al hq fun c hK hC hn hm hp hD => ?_
  subst hK hC
  have n0 : 0 < c.n := by rw [hn]; decide
  have n1 : 1 < c.n := by rw [hn]; decide
  have n2 : 2 < c.n := by rw [hn]; decide
  have n3 : 3 < c.n := by rw [hn]; decide
  have n4 : 4 < c.n := by rw [hn]; decide
  have n6 : 6 < c.n := by rw [hn]; decide
  have n7 : 7 < c.n := by rw [hn]; decide
  have n8 : 8 < c.n := by rw [hn]; decide
  have n9 : 9 < c.n := by rw [hn]; decide
  have FR : Fr c a la ca (fun H => LamX.TabS H p qR) := tab_fr hp
  have dT : ∀ x : Dst, x.cells = d.cells → DrX c a la ca x.cells := fun x e => hD x e
  -- what is drawn
  have et := ev_callDX (m := mTO) (E := E) (z := .d (toldD (toldKs d) (toldTs d))) (d' := toldSt d) (X := fun H => LamX.TabS H p qR) (dT d rfl) FR (ea_cons (ev_var (c := c) (S := ⟨WX_ a la ca d (fun H => LamX.TabS H p qR), (S0 10 [.raw (.ref a)]).G⟩) (x := .raw (.ref a)) n0 rfl) (ea_cons (ev_int (i := 4)) ea_nil)) ⟨rfl, rfl, rfl⟩
  obtain ⟨ks, hks⟩ : ∃ ks, ks = toldKs d := ⟨_, rfl⟩
  obtain ⟨ts, hts⟩ : ∃ ts, ts = toldTs d := ⟨_, rfl⟩
  obtain ⟨d1, hd1⟩ : ∃ d1, d1 = toldSt d := ⟨_, rfl⟩
  have hg : GoodW ks ts := by
    rw [hks, hts]
    exact told_good d
  have hne : ks ≠ [] := by
    rw [hks]
    exact told_ne d
  have c1 : d1.cells = d.cells := by
    rw [hd1]
    exact told_cells d
  rw [← hks, ← hts, ← hd1] at et
  refine run_seq (S1 := ⟨WX_ a la ca d1 (fun H => LamX.TabS H p qR), [some (.x (.raw (.ref a))), some (.x (.d (toldD ks ts))), none, none, none, none, none, none, none, none]⟩) (run_set (i := 1) et) ?_
  have hok := wok_of hg
  have ew := ev_callF (m := mWO) (E := E) (z := .w ks ts) (ea_cons (ev_var (c := c) (S := ⟨WX_ a la ca d1 (fun H => LamX.TabS H p qR), [some (.x (.raw (.ref a))), some (.x (.d (toldD ks ts))), none, none, none, none, none, none, none, none]⟩) (x := .d (toldD ks ts)) n1 rfl) ea_nil) ⟨ks, ts, rfl, hg, rfl⟩
  have es := ev_callDX (m := mSP 5) (E := E) (z := .d (shpO 4 d1 ks ts).1.dat) (d' := (shpO 4 d1 ks ts).2) (X := fun H => LamX.TabS H p qR) (dT d1 c1) FR (ea_cons (ev_var (c := c) (S := ⟨WX_ a la ca d1 (fun H => LamX.TabS H p qR), [some (.x (.raw (.ref a))), some (.x (.d (toldD ks ts))), none, none, none, none, none, none, none, none]⟩) (x := .raw (.ref a)) n0 rfl) (ea_cons (ev_var n1 rfl) (ea_cons (ev_int (i := 4)) ea_nil))) ⟨ks, ts, 4, by decide, rfl, hg, hne, rfl, rfl⟩
  obtain ⟨hwf, hin⟩ := shpO_wf 4 d1 ks ts hne
  have c2 := shpO_cells 4 d1 ks ts
  generalize shpO 4 d1 ks ts = so at es hwf hin c2
  obtain ⟨sh, d2⟩ := so
  dsimp only at es hwf hin c2
  rw [c1] at c2
  have hin : sh.inner ≤ 15 := by omega
  have hsz := size_inner sh
  have hsz : sh.size ≤ 31 := by omega
  have hdp := sh.depth_le
  have htl := txt_len hok sh hwf
  have hsd : Sd 60 sh.dat := (sd_dat hok sh hwf).up (by omega)
  have hnd := nd_dat sh
  refine run_seq (S1 := ⟨WX_ a la ca d2 (fun H => LamX.TabS H p qR), [some (.x (.raw (.ref a))), some (.x (.d (toldD ks ts))), some (.x (.w ks ts)), some (.x (.d sh.dat)), none, none, none, none, none, none]⟩) (run_asgT2 (i := 2) (j := 3) ew es) ?_
  have ex := ev_callF (m := mTB 60) (E := E) (z := .d (.str sh.txt)) (ea_cons (ev_var (c := c) (S := ⟨WX_ a la ca d2 (fun H => LamX.TabS H p qR), [some (.x (.raw (.ref a))), some (.x (.d (toldD ks ts))), some (.x (.w ks ts)), some (.x (.d sh.dat)), none, none, none, none, none, none]⟩) (x := .d sh.dat) n3 rfl) ea_nil) ⟨sh, rfl, by omega, by omega, rfl⟩
  refine run_seq (S1 := rtS a la ca p d2 ks ts sh none none none none none) (run_set (i := 4) ex) ?_
  have v2 : ∀ {dx : Dst} {e5 e6 e7 e8 e9 : Option En}, EvS c (rtS a la ca p dx ks ts sh e5 e6 e7 e8 e9) (tVar 2) (.w ks ts) (rtS a la ca p dx ks ts sh e5 e6 e7 e8 e9) := ev_var n2 rfl
  have v3 : ∀ {dx : Dst} {e5 e6 e7 e8 e9 : Option En}, EvS c (rtS a la ca p dx ks ts sh e5 e6 e7 e8 e9) (tVar 3) (.d sh.dat) (rtS a la ca p dx ks ts sh e5 e6 e7 e8 e9) := ev_var n3 rfl
  have v4 : ∀ {dx : Dst} {e5 e6 e7 e8 e9 : Option En}, EvS c (rtS a la ca p dx ks ts sh e5 e6 e7 e8 e9) (tVar 4) (.d (.str sh.txt)) (rtS a la ca p dx ks ts sh e5 e6 e7 e8 e9) := ev_var n4 rfl
  have big : (100000 : Nat) ≤ sizeLine := by decide
  have mst : mST DW DS [.w ks ts, .d sh.dat] (.ok (.d (.str sh.txt))) := ⟨ks, ts, sh.dat, rfl, hok, hsd.up (by decide), .inl ⟨sh, rfl, hwf, by omega, rfl⟩⟩
  have mrs : mRS DW DT [.w ks ts, .d (.str sh.txt)] (.ok (.d sh.dat)) := .inl ⟨ks, ts, .str sh.txt, some sh, rfl, hok, fun s e => by
    cases e
    omega, rfl, ⟨rfl, hwf, by omega⟩, rfl⟩
  have hso := txt_ok hok sh hwf
  have eg : ∀ {e5 e6 e7 e8 e9 : Option En}, EvS c (rtS a la ca p d2 ks ts sh e5 e6 e7 e8 e9) _ (.d (.bool true)) (rtS a la ca p d2 ks ts sh e5 e6 e7 e8 e9) := fun {e5 e6 e7 e8 e9} => ev_callF (m := mLY) (E := E) (ea_cons (ev_lst (ds := [.str sh.txt, .str sh.txt, sh.dat, sh.dat]) (ea_cons (ev_callF (m := mST DW DS) (E := E) (ea_cons v2 (ea_cons v3 ea_nil)) mst) (ea_cons (ev_callK (m := mST DW DS) (E := E) (ea_cons v3 (ea_cons v2 ea_nil)) mst) (ea_cons (ev_callF (m := mRS DW DT) (E := E) (ea_cons v2 (ea_cons v4 ea_nil)) mrs) (ea_cons (ev_callK (m := mRS DW DT) (E := E) (ea_cons v4 (ea_cons v2 ea_nil)) mrs) ea_nil)))) (show 4 ≤ 1000 by decide)) (ea_cons (ev_lst (ds := [.str sh.txt, .str sh.txt, sh.dat, sh.dat]) (ea_cons v4 (ea_cons v4 (ea_cons v3 (ea_cons v3 ea_nil)))) (show 4 ≤ 1000 by decide)) ea_nil))
    ⟨.list [.str sh.txt, .str sh.txt, sh.dat, sh.dat], rfl, (Sd.lst (k := 60) fun x hx => by
      simp only [List.mem_cons, List.not_mem_nil, or_false] at hx
      rcases hx with rfl | rfl | rfl | rfl
      · exact .str hso
      · exact .str hso
      · exact hsd
      · exact hsd).up (by decide), by
      simp [nd, ndAll]
      omega, rfl⟩
  refine run_seq (run_ifF (eb_not (eb_B eg)) run_next) ?_
  refine run_forQ (fun r S => ∃ (ns : List Nat) (d' : Dst) (e5 e6 e7 e8 e9 : Option En), r = ns.map (fun (k : Nat) => Dx.d (.int (k : Int))) ∧ d'.cells = d.cells ∧ S = rtS a la ca p d' ks ts sh e5 e6 e7 e8 e9)
    (fun S => ∃ (d' : Dst) (e5 e6 e7 e8 e9 : Option En), d'.cells = d.cells ∧ S = rtS a la ca p d' ks ts sh e5 e6 e7 e8 e9) (ei_range (ea_cons (ev_int (i := 8)) ea_nil) (by decide) (by decide)) ⟨List.range 8, d2, none, none, none, none, none, rfl, c2, rfl⟩ ?_ ?_ ?_
  · rintro x r S ⟨ns, d', e5, e6, e7, e8, e9, hr', c', rfl⟩
    cases ns with
    | nil => cases hr'
    | cons n ns =>
      cases hr'
      have hnear := near_facts hok hwf hin d'
      have c3 := nearO_cells d' sh.txt
      have en := ev_callDX (m := mNT) (E := E) (z := .d (.str (nearO d' sh.txt).1)) (d' := (nearO d' sh.txt).2) (X := fun H => LamX.TabS H p qR) (dT d' c') FR (ea_cons (ev_var (c := c) (S := rtS a la ca p d' ks ts sh (some (.x (.d (.int (n : Int))))) e6 e7 e8 e9) (x := .raw (.ref a)) n0 rfl) (ea_cons v4 ea_nil)) ⟨sh.txt, rfl, by omega, rfl, rfl⟩
      generalize nearO d' sh.txt = no at hnear c3 en
      obtain ⟨nt, d3⟩ := no
      dsimp only at hnear c3 en
      rw [c'] at c3
      obtain ⟨nl, nc, nf⟩ := hnear
      obtain ⟨e5', he5⟩ : ∃ e5' : Option En, e5' = some (.x (.d (.int (n : Int)))) := ⟨_, rfl⟩
      rw [← he5] at en
      have hlr := lr_spec hok (n := 59) (s := nt) (by omega)
      have el : ∀ {e9 : Option En} {e8 : Option En}, EvS c (rtS a la ca p d3 ks ts sh e5' (some (.x (.d (.str nt)))) (some (.own [])) e8 e9) (tCall (spF c.K c.C (mLR 60)) [] E (tCons (tVar 1) (tCons (tVar 6) tNil))) (.d (lRead ks ts 59 nt)) (rtS a la ca p d3 ks ts sh e5' (some (.x (.d (.str nt)))) (some (.own [])) e8 e9) := ev_callF (m := mLR 60) (ea_cons (ev_var n1 rfl) (ea_cons (ev_var n6 rfl) ea_nil)) ⟨ks, ts, nt, rfl, Nat.le_trans nc (by decide), by omega, rfl⟩
      generalize lRead ks ts 59 nt = due at hlr el
      have hT : ∀ {e8 e9 : Option En} (H : Hp), (rtS a la ca p d3 ks ts sh e5' (some (.x (.d (.str nt)))) (some (.own [])) e8 e9).W H → LamX.TabS H p qR := fun H h => h.2
      have hWW : ∀ {e8 e9 : Option En} (H H1 : Hp), ButP p H H1 → LamX.TabS H1 p qR → (rtS a la ca p d3 ks ts sh e5' (some (.x (.d (.str nt)))) (some (.own [])) e8 e9).W H → (rtS a la ca p d3 ks ts sh e5' (some (.x (.d (.str nt)))) (some (.own [])) e8 e9).W H1 := fun H H1 st t1 ⟨⟨w1, w2⟩, w3⟩ => by
        obtain ⟨pq, t, _⟩ := w3
        exact ⟨⟨st a _ (fun z => by rw [z, t] at w1; cases w1) w1, st la _ (fun z => by rw [z, t] at w2; cases w2) w2⟩, t1⟩
      have v6 : ∀ {e7 e8 e9 : Option En}, EvS c (rtS a la ca p d3 ks ts sh e5' (some (.x (.d (.str nt)))) e7 e8 e9) (tVar 6) (.d (.str nt)) (rtS a la ca p d3 ks ts sh e5' (some (.x (.d (.str nt)))) e7 e8 e9) := ev_var n6 rfl
      have st1 : RunS c (rtS a la ca p d' ks ts sh e5' e6 e7 e8 e9) (tAsg (tTup (tCons (tCall (spD c.K c.C mNT) [] E (tCons (tVar 0) (tCons (tVar 4) tNil))) (tCons (tLst tNil) tNil))) (gTup c.K 2 (gCons (gName 6) (gCons (gName 7) gNil)))) (.nx (rtS a la ca p d3 ks ts sh e5' (some (.x (.d (.str nt)))) (some (.own [])) e8 e9)) := run_asgT2O (i := 6) (j := 7) en (eo_lst (ds := []) ea_nil (by decide)) n7
      have st2 : RunS c (rtS a la ca p d3 ks ts sh e5' (some (.x (.d (.str nt)))) (some (.own [])) e8 e9) (tAsg (tCall (spF c.K c.C (mLR 60)) [] E (tCons (tVar 1) (tCons (tVar 6) tNil))) (gName 8)) (.nx (rtS a la ca p d3 ks ts sh e5' (some (.x (.d (.str nt)))) (some (.own [])) (some (.x (.d due))) e9)) := run_set (i := 8) el
      rcases hlr with ⟨sh1, hw1, rfl, rfl⟩ | ⟨hno, rfl⟩
      · have s1 := nf sh1 hw1 rfl
        have hd1 : Sd 60 sh1.dat := (sd_dat hok sh1 hw1).up (by have := sh1.depth_le; omega)
        have hn1 := nd_dat sh1
        have er := ev_lamOk (c := c) (CE := CE) (S := rtS a la ca p d3 ks ts sh e5' (some (.x (.d (.str sh1.txt)))) (some (.own [])) (some (.x (.d sh1.dat))) e9) (t := fun E => tBM c.K "list" rAppend (tVar 7) (tCons (tCall (spF c.K c.C (mRS DW DT)) [] E (tCons (tVar 2) (tCons (tVar 6) tNil))) tNil)) hm hT hWW fun E => ev_app (ds := []) (ds1 := []) n7 rfl (ev_callF (m := mRS DW DT) (z := .d sh1.dat) (ea_cons v2 (ea_cons v6 ea_nil)) (.inl ⟨ks, ts, .str sh1.txt, some sh1, rfl, hok, fun s e => by
          cases e
          omega, rfl, ⟨rfl, hw1, s1⟩, rfl⟩)) rfl (by decide)
        have v8 : ∀ {e7 e9 : Option En}, EvS c (rtS a la ca p d3 ks ts sh e5' (some (.x (.d (.str sh1.txt)))) e7 (some (.x (.d sh1.dat))) e9) (tVar 8) (.d sh1.dat) (rtS a la ca p d3 ks ts sh e5' (some (.x (.d (.str sh1.txt)))) e7 (some (.x (.d sh1.dat))) e9) := ev_var n8 rfl
        have v9 : ∀ {e7 : Option En}, EvS c (rtS a la ca p d3 ks ts sh e5' (some (.x (.d (.str sh1.txt)))) e7 (some (.x (.d sh1.dat))) (some (.x (.d .none)))) (tVar 9) (.d .none) (rtS a la ca p d3 ks ts sh e5' (some (.x (.d (.str sh1.txt)))) e7 (some (.x (.d sh1.dat))) (some (.x (.d .none)))) := ev_var n9 rfl
        refine .step (S1 := rtS a la ca p d' ks ts sh e5' e6 e7 e8 e9) (S2 := rtS a la ca p d3 ks ts sh e5' (some (.x (.d (.str sh1.txt)))) (some (.own [sh1.dat])) (some (.x (.d sh1.dat))) (some (.x (.d .none)))) (by rw [he5]; exact asg_name) ?_ ⟨ns, d3, _, _, _, _, _, rfl, c3, rfl⟩
        refine run_seq st1 (run_seq st2 (run_seq (S1 := rtS a la ca p d3 ks ts sh e5' (some (.x (.d (.str sh1.txt)))) (some (.own [sh1.dat])) (some (.x (.d sh1.dat))) (some (.x (.d .none)))) (run_set (i := 9) er) (run_ifF (eb_or0 (eb_and0 (eb_is (eb_test (ev_op v8 ev_non rv_isN)) (dat_some sh1))) (eb_is (eb_and1 (eb_is (eb_test (ev_op v8 ev_non rv_notN)) (by rw [dat_some]; rfl)) (eb_or0 (eb_test (ev_op v9 ev_non rv_notN)) (eb_not (eb_B (ev_callF (m := mLY) (ea_cons (ev_ixO 0 n7 rfl rfl) (ea_cons v8 ea_nil)) ⟨sh1.dat, rfl, hd1.up (by decide), by omega, rfl⟩))))) rfl)) run_next)))
      · have er := ev_lamEx (c := c) (CE := CE) (D := DT) (S := rtS a la ca p d3 ks ts sh e5' (some (.x (.d (.str nt)))) (some (.own [])) (some (.x (.d .none))) e9) (t := fun E => tBM c.K "list" rAppend (tVar 7) (tCons (tCall (spF c.K c.C (mRS DW DT)) [] E (tCons (tVar 2) (tCons (tVar 6) tNil))) tNil)) hm hT hWW hXE fun E => exx_app (ds := []) n7 rfl (exx_callF (m := mRS DW DT) (ea_cons v2 (ea_cons v6 ea_nil)) (.inl ⟨ks, ts, .str nt, none, rfl, hok, fun s e => by
          cases e
          omega, rfl, fun sh2 hw2 _ e => hno sh2 hw2 (by cases e; rfl), rfl⟩))
        have v8 : ∀ {e7 e9 : Option En}, EvS c (rtS a la ca p d3 ks ts sh e5' (some (.x (.d (.str nt)))) e7 (some (.x (.d .none))) e9) (tVar 8) (.d .none) (rtS a la ca p d3 ks ts sh e5' (some (.x (.d (.str nt)))) e7 (some (.x (.d .none))) e9) := ev_var n8 rfl
        have v9 : ∀ {e7 : Option En}, EvS c (rtS a la ca p d3 ks ts sh e5' (some (.x (.d (.str nt)))) e7 (some (.x (.d .none))) (some (.x (.d (excD DT))))) (tVar 9) (.d (excD DT)) (rtS a la ca p d3 ks ts sh e5' (some (.x (.d (.str nt)))) e7 (some (.x (.d .none))) (some (.x (.d (excD DT))))) := ev_var n9 rfl
        have hki : PySem.W.kitOne c.K (.ref DT) (.ref DT) = some true := by
          unfold PySem.W.kitOne
          rw [if_pos (by simp)]
        refine .step (S1 := rtS a la ca p d' ks ts sh e5' e6 e7 e8 e9) (S2 := rtS a la ca p d3 ks ts sh e5' (some (.x (.d (.str nt)))) (some (.own [])) (some (.x (.d .none))) (some (.x (.d (excD DT))))) (by rw [he5]; exact asg_name) ?_ ⟨ns, d3, _, _, _, _, _, rfl, c3, rfl⟩
        refine run_seq st1 (run_seq st2 (run_seq (S1 := rtS a la ca p d3 ks ts sh e5' (some (.x (.d (.str nt)))) (some (.own [])) (some (.x (.d .none))) (some (.x (.d (excD DT))))) (run_set (i := 9) er) (run_ifF (eb_or0 (eb_and1 (eb_test (ev_op v8 ev_non rv_isN)) (eb_not (eb_B (ev_isX v9 XC hki)))) (eb_and0 (eb_test (ev_op v8 ev_non rv_notN)))) run_next)))
  · rintro S ⟨ns, d', e5, e6, e7, e8, e9, hr', c', rfl⟩
    exact ⟨d', e5, e6, e7, e8, e9, c', rfl⟩
  · rintro S ⟨d', e5, e6, e7, e8, e9, c', rfl⟩
    exact run_rtW (run_ret ev_bl) fun H h => ⟨d', c', h⟩
end
end K2

/-! K2z -/
set_option Elab.async false
set_option linter.all false
set_option autoImplicit false
set_option maxRecDepth 100000
set_option maxHeartbeats 4000000

namespace K2
open PySem PySem.Spec PyProof.Rows L2 Tk
abbrev sBG : Stmt := topS 37
theorem scBG : FnScope ["script", "large", "cell"] ["script"] (defScope sBG) := ⟨rfl, rfl, rfl, by decide +kernel, rfl, by decide +kernel, by decide +kernel⟩
section
variable {P : Program} {w : World} {K : PySem.W.Frag} {mg : Str → Option Value} {base : Heap} {C : Addr}

theorem walk_bg {f : Addr} {fd : FuncData} {k : Nat} (M : MT P w K mg base C) {cdv : Value} {A : Around} {outer : List Env} {s : Shared} {H : Hp} {E : XK} (hr : Room k (A.deeper (envOfC "_law_begun" (defScope sBG) s.heap.objs.size f cdv))) : ∃ t, PSs (fx P w K mg base ["script", "large", "cell"] "_law_begun" sBG f cdv A outer s H E) (defBody sBG) t := by
  exact ⟨_, (pss_cons (ps_setLc (i := 1) (own := [("cell", 2)]) (g := gName 2) rfl scBG.nd rfl rfl (sw_true rfl rfl rfl (by decide +kernel)) (pi_list (pv 0)) (blkOk_by (N := ["script", "large", "cell"]) (sc := defScope sBG) (by decide +kernel)) (fun _ _ _ _ _ => pg_name (i := 2) scBG.nd rfl (.inl rfl)) (fun _ _ _ _ _ => (pts_one (pt_cmpR op_ge (pe_callB call_abs (by rfl) (M.B "abs" (by decide)) boot_abs (pa_cons (pv 2) pa_nil)) (pe_op op_pow pe_int pe_int) (nomark _)))) (fun _ _ _ _ _ => (pe_op op_sub (pe_callB call_abs (by rfl) (M.B "abs" (by decide)) boot_abs (pa_cons (pv 2) pa_nil)) (pe_op op_pow pe_int pe_int))))
      (pss_one (ps_ret (pe_disp (pps_cons pe_str (pv 1) (pps_cons pe_str pe_int (pps_cons pe_str (pe_lc (own := [("cell", 2)]) (g := gName 2) (tt := tYes) rfl scBG.nd (pi_list (pv 0)) (blkOk_by (N := ["script", "large", "cell"]) (sc := defScope sBG) (by decide +kernel)) (fun _ _ _ _ _ => pg_name (i := 2) scBG.nd rfl (.inl rfl)) (fun _ _ _ _ _ => pts_nil) (fun _ _ _ _ _ => (pe_callB call_abs (by rfl) (M.B "abs" (by decide)) boot_abs (pa_cons (pv 2) pa_nil)))) (pps_cons pe_str pe_int pps_nil)))) (by rfl) (by rfl) (by decide) (by decide)))))⟩
end
end K2

/-! K3a -/
set_option Elab.async false
set_option linter.all false
set_option autoImplicit false
set_option maxRecDepth 100000
set_option maxHeartbeats 4000000

namespace Tk
open PySem PySem.Spec PyProof.Rows L2
theorem sqL_at {K : PySem.W.Frag} {H H' : Hp} {a : Addr} {xs : List V} (e : ∀ o, H a = some o → H' a = some o) (h : SqL K H a xs) : SqL K H' a xs := by
  rcases h with (h | ⟨o, h⟩) | h
  · exact .inl (.inl (e _ h))
  · exact .inl (.inr ⟨o, e _ h⟩)
  · exact .inr h
theorem walks_sq {K : PySem.W.Frag} {C : Addr} {B : Hp} {a : Addr} {ns : List Int} (h : SqL K B a (ns.map V.int)) : Walks K C B (Itl K a) ((ns.map PyData.int).map Dx.d) := fun H' e => by
  have hs : SqL K H' a (ns.map V.int) := sqL_at (fun o q => e _ _ q) h
  have hd : DtA K B (ns.map V.int) (ns.map PyData.int) := DtA.ints ns
  refine ⟨fun i x hx => ?_, fun i hi => ⟨_, hs, by rw [hd.len]; rw [List.length_map] at hi; exact hi⟩⟩
  rw [List.getElem?_map] at hx
  cases q : (ns.map PyData.int)[i]? with
  | none =>
    rw [q] at hx
    cases hx
  | some d =>
    rw [q] at hx
    cases hx
    obtain ⟨v, v1, v2⟩ := hd.get q
    refine ⟨⟨_, v, hs, v1⟩, fun w H'' hy => ?_⟩
    obtain ⟨rfl, f⟩ := hy
    refine ⟨Same.refl _, fun P _ hB => ?_⟩
    have := (f _ hs).symm.trans v1
    cases this
    exact Dt.mono hB v2
theorem sq_hid {c : Cn} {S : Stt} {A : Nat → Addr} {σ : L2.St} {H : Hp} {a : Addr} {xs : List V} (hP : ¬ c.P a) (h : SqL c.K c.H0 a xs) (L : Sl c A S σ H) : SqL c.K (hid c A S H) a xs := sqL_at (fun o e => by
  show hidP _ _ a = _
  rw [hidP_neg]
  · exact L.sm a o (fun m => hP (c.mp _ m)) e
  · rintro (z | ⟨i, ds, q, z⟩)
    · exact hP z
    · obtain ⟨_, e2, _⟩ := L.own i ds q
      rw [← z, e] at e2
      cases e2) h
theorem ei_raw {c : Cn} {S : Stt} {i : Nat} {a : Addr} {ns : List Int} (hn : i < c.n) (hi : S.G[i]? = some (some (.x (.raw (.ref a))))) (hP : ¬ c.P a) (h : SqL c.K c.H0 a (ns.map V.int)) : EvI c S (iList c.K (tVar i)) ((ns.map PyData.int).map Dx.d) S := fun A σ H L R q => by
  obtain ⟨v, e1, e2⟩ := L.val i _ hn hi
  exact ⟨v, e1, a, e2, ⟨_, sqL_at (fun o e => hidP_le _ _ e) (sq_hid hP h L)⟩, q _ H L (Same.refl _) (walks_sq (sq_hid hP h L))⟩
theorem ev_abs {c : Cn} {S S1 : Stt} {te : TE} {i : Int} (h : EvS c S te (.d (.int i)) S1) : EvS c S (tCB (fun xs H Q => ∃ i : Int, xs = [.int i] ∧ Q (.int (if i < 0 then -i else i)) H) (tCons te tNil)) (.d (.int (if i < 0 then -i else i))) S1 := fun A σ H L Q q => h A σ H L _ fun v H1 L1 e1 r1 => ⟨i, by rw [Dt.int_inv r1], q _ H1 L1 e1 (Dt.int _)⟩
end Tk
namespace K2
open PySem PySem.Spec PyProof.Rows L2 Tk
def ab (i : Int) : Int := if i < 0 then -i else i
def bgL : List Int → List Int
  | [] => []
  | i :: r => if ab i ≥ 10 ^ 18 then (ab i - 10 ^ 18) :: bgL r else bgL r
def d0 (ns : List Int) : Dst := ⟨bgL ns, 0, ns.map ab, 0⟩
theorem bgL_len : ∀ ns, (bgL ns).length ≤ ns.length
  | [] => Nat.le_refl _
  | i :: r => by
    have := bgL_len r
    unfold bgL
    split
    · simp; omega
    · simp; omega
theorem lpc_bg {c : Cn} {G : List (Option En)} {W : Hp → Prop} {tt : TT} {te : TE} (htt : ∀ acc (i : Int), EvB c (Sb W (G.set 2 (some (.x (.d (.int i))))) acc) tt (decide (ab i ≥ 10 ^ 18)) (Sb W (G.set 2 (some (.x (.d (.int i))))) acc)) (hte : ∀ acc (i : Int), EvS c (Sb W (G.set 2 (some (.x (.d (.int i))))) acc) te (.d (.int (ab i - 10 ^ 18))) (Sb W (G.set 2 (some (.x (.d (.int i))))) acc)) :
    ∀ (ns : List Int) (acc : List PyData), LpC c 2 G tt te W acc ((ns.map PyData.int).map Dx.d) W (acc ++ (bgL ns).map .int)
  | [], acc => by
    unfold bgL
    rw [List.map_nil, List.map_nil, List.append_nil]
    exact .nil
  | i :: r, acc => by
    unfold bgL
    by_cases h : ab i ≥ 10 ^ 18
    · rw [if_pos h]
      have ih := lpc_bg htt hte r (acc ++ [.int (ab i - 10 ^ 18)])
      rw [List.append_assoc] at ih
      exact .yes (eb_is (htt acc i) (decide_eq_true h)) (hte acc i) ih
    · rw [if_neg h]
      exact .no (eb_is (htt acc i) (decide_eq_false h)) (lpc_bg htt hte r acc)
def spB (K : PySem.W.Frag) : Sp := fun vs H Q E => ∃ (a : Addr) (ns : List Int), vs = [.ref a] ∧ SqL K H a (ns.map V.int) ∧ ns.length ≤ 100000 ∧ ∀ p la ca H', Same H H' → H p = none → H la = none → H ca = none → p ≠ la → p ≠ ca → la ≠ ca → Drw p la ca (d0 ns) H' → H' ca = some (.lst ((d0 ns).cells.map V.int)) → Q (.ref p) H'
section
variable {P : Program} {w : World} {K : PySem.W.Frag} {mg : Str → Option Value} {base : Heap} {C : Addr}

theorem ok_bg {f : Addr} {fd : FuncData} (F : Fun K "_law_begun" "_law_begun" sBG f fd) (M : MT P w K mg base C) : FnOk P w K mg base (L2.CX P w) 2 f fd ["script"] (spB K) := by
  refine F.okX scBG (fun vs H Q E ⟨_, _, h, _⟩ => by rw [h]; rfl) fun cdv A outer s H vs Q E hr ⟨a, ns, h1, hS, hl, hq⟩ => ?_
  subst h1
  refine ⟨_, (pss_cons (ps_setLc (i := 1) (own := [("cell", 2)]) (g := gName 2) rfl scBG.nd rfl rfl (sw_true rfl rfl rfl (by decide +kernel)) (pi_list (pv 0)) (blkOk_by (N := ["script", "large", "cell"]) (sc := defScope sBG) (by decide +kernel)) (fun _ _ _ _ _ => pg_name (i := 2) scBG.nd rfl (.inl rfl)) (fun _ _ _ _ _ => (pts_one (pt_cmpR op_ge (pe_callB call_abs (by rfl) (M.B "abs" (by decide)) boot_abs (pa_cons (pv 2) pa_nil)) (pe_op op_pow pe_int pe_int) (nomark _)))) (fun _ _ _ _ _ => (pe_op op_sub (pe_callB call_abs (by rfl) (M.B "abs" (by decide)) boot_abs (pa_cons (pv 2) pa_nil)) (pe_op op_pow pe_int pe_int))))
      (pss_one (ps_ret (pe_disp (pps_cons pe_str (pv 1) (pps_cons pe_str pe_int (pps_cons pe_str (pe_lc (own := [("cell", 2)]) (g := gName 2) (tt := tYes) rfl scBG.nd (pi_list (pv 0)) (blkOk_by (N := ["script", "large", "cell"]) (sc := defScope sBG) (by decide +kernel)) (fun _ _ _ _ _ => pg_name (i := 2) scBG.nd rfl (.inl rfl)) (fun _ _ _ _ _ => pts_nil) (fun _ _ _ _ _ => (pe_callB call_abs (by rfl) (M.B "abs" (by decide)) boot_abs (pa_cons (pv 2) pa_nil)))) (pps_cons pe_str pe_int pps_nil)))) (by rfl) (by rfl) (by decide) (by decide))))), ?_⟩
  obtain ⟨c, hc⟩ : ∃ c : Cn, c = ⟨K, C, H, fun _ => False, fun _ => False, fun _ z => z, 3⟩ := ⟨_, rfl⟩
  have cK : c.K = K := by rw [hc]
  have cH : c.H0 = H := by rw [hc]
  have cP : ∀ b, ¬ c.P b := by rw [hc]; exact fun _ z => z
  have cM : ∀ b, ¬ c.Mt b := by rw [hc]; exact fun _ z => z
  have cn : c.n = 3 := by rw [hc]
  have L : Sl c (fun _ => 0) ⟨fun _ => True, (S0 3 [.raw (.ref a)]).G⟩ (L2.start ["script", "large", "cell"] [.ref a]) H := by
    rw [hc]
    exact sl_start (K := K) (C := C) (N := ["script", "large", "cell"]) (vs := [.ref a]) (xs := [.raw (.ref a)]) (H := H) (R := fun _ => False) (Mt := fun _ => False) (W := fun _ => True) (fun _ z => z) (.cons rfl .nil) (fun _ z => z.elim) (show 1 ≤ 3 by decide) trivial (fun _ _ _ z => z)
  clear hc
  subst cK cH
  have n0 : 0 < c.n := by rw [cn]; decide
  have n1 : 1 < c.n := by rw [cn]; decide
  have n2 : 2 < c.n := by rw [cn]; decide
  refine run_own (i := 1) (ds := (bgL ns).map PyData.int) (S1 := ⟨fun _ => True, (S0 3 [.raw (.ref a)]).G⟩) (eo_lc n2 rfl (ei_raw n0 rfl (cP a) hS) (by rw [List.length_map, List.length_map]; exact hl) (lpc_bg (fun acc i => eb_test (ev_op (ev_abs (ev_var n2 rfl)) (ev_op ev_int ev_int (rv_intC (g := fun i j => i ^ j.toNat) (by unfold CPow; decide))) (rv_cmp (g := fun i j => decide (j ≤ i))))) (fun acc i => ev_op (ev_abs (ev_var n2 rfl)) (ev_op ev_int ev_int (rv_intC (g := fun i j => i ^ j.toNat) (by unfold CPow; decide))) (rv_int (g := fun i j => i - j))) ns [])) (show 1 < 3 by decide) _ _ _ L _ fun A1 σ1 H1 L1 s1 p hp => ?_
  obtain ⟨L2, s2⟩ := L1.grow (same_new (o := .dK []) hp)
  obtain ⟨e1, e2, e3, xs1, e4, e5⟩ := L2.own 1 ((bgL ns).map PyData.int) rfl
  obtain rfl := e5.ints_inv
  have hpl : A1 1 ≠ p := fun z => by
    rw [z, upd_same] at e4
    cases e4
  simp only [tPairs, tC]
  refine ⟨_, e1 n1, ?_⟩
  refine eo_lc (S := ⟨fun _ => True, [some (.x (.raw (.ref a))), some (.own ((bgL ns).map PyData.int)), none]⟩) (W1 := fun _ => True) (W2 := fun _ => True) (G := [some (.x (.raw (.ref a))), some (.own ((bgL ns).map PyData.int)), none]) (ys := (ns.map ab).map PyData.int) n2 rfl (ei_raw n0 rfl (cP a) hS) (by rw [List.length_map, List.length_map]; exact hl) (by
    rw [List.map_map, List.map_map]
    exact lpc_map (Dx.d ∘ PyData.int) (PyData.int ∘ ab) ns [] fun acc i _ => ev_abs (ev_var n2 rfl)) A1 σ1 _ L2 _ fun ca xs H3 L3 s3 d3 hca => ?_
  obtain rfl := d3.ints_inv
  obtain ⟨_, f2, f3, xs3, f4, f5⟩ := L3.own 1 ((bgL ns).map PyData.int) rfl
  obtain rfl := f5.ints_inv
  have pn : ¬ (c.P p ∨ Stt.owns ⟨fun _ => True, [some (.x (.raw (.ref a))), some (.own ((bgL ns).map PyData.int)), none]⟩ A1 p) := L1.new hp
  have p3 : H3 p = some (.dK []) := by
    have := s3 p (.dK []) (by
      show hidP _ _ p = _
      rw [hidP_neg pn, upd_same])
    exact hidP_le _ _ this
  have npc : p ≠ ca := ne_of_none p3 hca
  have nlc : A1 1 ≠ ca := ne_of_none f4 hca
  refine ⟨by rw [upd_ne npc]; exact p3, [(.inr "large", .ref (A1 1)), (.inr "rest", .int 0), (.inr "cells", .ref ca), (.inr "turn", .int 0)], rfl, (show 4 ≤ 15 by decide), ?_⟩
  have nn : ∀ {b : Addr}, H1 b = none → c.H0 b = none := fun {b} h => by
    cases q : c.H0 b with
    | none => rfl
    | some o =>
      rw [L1.sm b o (cM b) q] at h
      cases h
  have n3 : ∀ {b : Addr}, H3 b = none → c.H0 b = none := fun {b} h => by
    cases q : c.H0 b with
    | none => rfl
    | some o =>
      rw [L3.sm b o (cM b) q] at h
      cases h
  refine hq p (A1 1) ca _ (fun b o e => ?_) (nn hp) e2 (n3 hca) hpl.symm npc nlc ⟨?_, ?_⟩ ?_
  · rw [upd_ne (ne_of_none e (nn hp)), upd_ne (ne_of_none e (n3 hca))]
    exact L3.sm b o (cM b) e
  · rw [upd_same]
    rfl
  · rw [upd_ne hpl, upd_ne nlc]
    exact f4
  · rw [upd_ne npc.symm, upd_same]
    rfl
end
end K2

/-! K3b -/
set_option Elab.async false
set_option linter.all false
set_option autoImplicit false
set_option maxRecDepth 100000
set_option maxHeartbeats 4000000

namespace K2
open PySem PySem.Spec PyProof.Rows L2 Tk
def qL : Str := (("law" : Str) ++ (".<locals>." : Str)) ++ ("<lambda>" : Str)
abbrev sLW : Stmt := topS 54
theorem scLW : FnScope ["script", "draw", "lap", "words", "long", "odd", "errors", "kinds"] ["script"] (defScope sLW) := ⟨rfl, rfl, rfl, by decide +kernel, rfl, by decide +kernel, by decide +kernel⟩
section
variable {P : Program} {w : World} {K : PySem.W.Frag} {mg : Str → Option Value} {base : Heap} {C : Addr}

theorem walk_lw {f c0 p p2 DW DS DT CE gk fi : Addr} {fd fdk fdi : FuncData} (M : MT P w K mg base C) (XB : XT K mg "BadText" DT) (XS : XT K mg "BadShape" DS) (XW : XT K mg "BadWords" DW)
    (h__law_begun : Cal P w K mg base "_law_begun" 130 ["script"] (spB K)) (h__law_right : Cal P w K mg base "_law_right" 130 ["draw"] (spR K p2 qR)) (h__law_pick : Cal P w K mg base "_law_pick" 130 ["draw", "some"] (spD K C mPK)) (h_shape_text : Cal P w K mg base "shape_text" 130 ["words", "shape"] (spF K C (mST DW DS))) (h_read_shape : Cal P w K mg base "read_shape" 130 ["words", "text"] (spF K C (mRS DW DT)))
    (MK : Mk K C fi) (FI : FnOk P w K mg base (L2.CX P w) 4 fi fdi ["self", "kinds", "ties"] (spInit K C)) (BI : L2.Binds K fdi ["self", "kinds", "ties"] []) (DC : Df K mg "_law_caught" sCA ["work"] gk fdk) (hKE : mg "KindError" = some (.ref CE)) (TB : LamX.TabB base mg c0 p)
    {A : Around} {outer : List Env} {s : Shared} {H : Hp} {E : XK} (hr : Room 133 (A.deeper (envOfC "law" (defScope sLW) s.heap.objs.size f (.ref c0)))) : ∃ t, PSs (cxOf (L2.CX P w) P w K mg base ["script", "draw", "lap", "words", "long", "odd", "errors", "kinds"] "law" (defScope sLW) f (.ref c0) A outer s H E) (defBody sLW) t := by
  obtain ⟨oc, od, kV, doc, pm, an, cdv, ct, osl, rfl, lkg, hcg⟩ := DC.F.ex
  have hr1 : Room 130 _ := hr.mono (by decide)
  have hr2 : Room 132 _ := hr.mono (by decide)
  exact ⟨_, (pss_cons (ps_set (i := 1) scLW.nd rfl (.inl rfl) (pe_cal h__law_begun hr1 pxE (pa_cons (pv 0) pa_nil)))
      (pss_cons (ps_for pown rfl (pi_range1 (by rfl) (M.B "range" (by decide)) (pa_cons (pe_op op_add pe_int (pe_callB (call_min2 rfl) (by rfl) (M.B "min" (by decide)) boot_min (pa_cons (pe_callB call_lenSq (by rfl) (M.B "len" (by decide)) boot_len (pa_cons (pv 0) pa_nil)) (pa_cons pe_int pa_nil)))) pa_nil)) (pg_name (i := 2) scLW.nd rfl (.inl rfl)) (pss_one (ps_if (pt_not (pt_val (pe_cal h__law_right hr1 pxE (pa_cons (pv 1) pa_nil)))) (pss_one (ps_ret pe_bl)) pss_nil)))
      (pss_cons (ps_asg (pe_tup (pa_cons (pe_make MK FI (hr1.mono (by decide)) (by rfl) M.W.gC BI .nil pxE (pa_cons (pe_lst (pa_cons pe_str pa_nil)) (pa_cons (pe_lst (pa_cons pe_str pa_nil)) pa_nil))) (pa_cons (pe_op op_addStr (pe_op op_addStr (pe_op op_mulS pe_str pe_int) pe_str) (pe_op op_mulS pe_str pe_int)) pa_nil))) (pg_tup (n := 2) rfl (pgs_cons (pg_name (i := 3) scLW.nd rfl (.inr rfl)) (pgs_cons (pg_name (i := 4) scLW.nd rfl (.inl rfl)) pgs_nil))))
      (pss_cons (ps_set (i := 5) scLW.nd rfl (.inr rfl) (pe_cal h__law_pick hr1 pxE (pa_cons (pv 1) (pa_cons (pe_lst (pa_cons pe_non (pa_cons pe_int (pa_cons (pe_tup (pa_cons pe_str (pa_cons pe_str pa_nil))) (pa_cons (pe_lst (pa_cons pe_str pa_nil)) (pa_cons pe_str (pa_cons (pe_op op_addStr (pe_op op_addStr pe_str (pv 4)) pe_str) (pa_cons (pe_op op_mulS pe_str pe_int) (pa_cons (pe_op op_mulS pe_str pe_int) (pa_cons (pe_op op_addStr (pe_op op_mulS pe_str pe_int) pe_str) pa_nil)))))))))) pa_nil))))
      (pss_cons (ps_set (i := 6) scLW.nd rfl (.inl rfl) (pe_lst (pa_cons (pe_lamP (x := "_law_caught") (a := "work") (Ng := ["work", "caught", "error"]) (p := p) (q := qL) (k := 130) (t := fun E => tCall (spF K C (mRS DW DT)) [] E (tCons (tVar 3) (tCons (tVar 5) tNil))) (by rfl) DC.g DC.F.kp lkg hcg DC.b scCA rfl (.inl rfl) (caught_gives hKE) TB (by rfl) (by exact (congrArg (fun z : Str => z ++ ("<lambda>" : Str)) qual_cx).symm) hr2 (LamX.lamS_by (by rfl)) (by rfl) (fun _ _ _ _ _ => rfl) (fun A2 outer2 s2 H2 E2 f2 c2 hr3 => by exact pe_cal h_read_shape hr3 pxLam (pa_cons (pv 3) (pa_cons (pv 5) pa_nil)))) pa_nil)))
      (pss_cons (ps_expr (pe_bm PySem.F.plainAttrs_list PySem.F.slot_list_append PySem.F.type_list_append mt_append (pv 6) (pa_cons (pe_lamP (x := "_law_caught") (a := "work") (Ng := ["work", "caught", "error"]) (p := p) (q := qL) (k := 130) (t := fun E => tCall (spF K C (mST DW DS)) [] E (tCons (tVar 3) (tCons (tVar 5) tNil))) (by rfl) DC.g DC.F.kp lkg hcg DC.b scCA rfl (.inl rfl) (caught_gives hKE) TB (by rfl) (by exact (congrArg (fun z : Str => z ++ ("<lambda>" : Str)) qual_cx).symm) hr2 (LamX.lamS_by (by rfl)) (by rfl) (fun _ _ _ _ _ => rfl) (fun A2 outer2 s2 H2 E2 f2 c2 hr3 => by exact pe_cal h_shape_text hr3 pxLam (pa_cons (pv 3) (pa_cons (pv 5) pa_nil)))) pa_nil)))
      (pss_cons (ps_expr (pe_bm PySem.F.plainAttrs_list PySem.F.slot_list_append PySem.F.type_list_append mt_append (pv 6) (pa_cons (pe_lamP (x := "_law_caught") (a := "work") (Ng := ["work", "caught", "error"]) (p := p) (q := qL) (k := 130) (t := fun E => tCall (spF K C (mRS DW DT)) [] E (tCons (tC .non) (tCons (tVar 5) tNil))) (by rfl) DC.g DC.F.kp lkg hcg DC.b scCA rfl (.inl rfl) (caught_gives hKE) TB (by rfl) (by exact (congrArg (fun z : Str => z ++ ("<lambda>" : Str)) qual_cx).symm) hr2 (LamX.lamS_by (by rfl)) (by rfl) (fun _ _ _ _ _ => rfl) (fun A2 outer2 s2 H2 E2 f2 c2 hr3 => by exact pe_cal h_read_shape hr3 pxLam (pa_cons pe_non (pa_cons (pv 5) pa_nil)))) pa_nil)))
      (pss_cons (ps_set (i := 7) scLW.nd rfl (.inl rfl) (pe_lst (pa_cons (pe_callB call_isX (by rfl) (M.B "isinstance" (by decide)) boot_isinstance (pa_cons (pe_ix ix_seq (pv 6) pe_int (fun _ _ => rfl)) (pa_cons (pe_glob (v := .ref DT) (by rfl) XB.g rfl) pa_nil))) (pa_cons (pe_callB call_isX (by rfl) (M.B "isinstance" (by decide)) boot_isinstance (pa_cons (pe_ix ix_seq (pv 6) pe_int (fun _ _ => rfl)) (pa_cons (pe_glob (v := .ref DS) (by rfl) XS.g rfl) pa_nil))) (pa_cons (pe_callB call_isX (by rfl) (M.B "isinstance" (by decide)) boot_isinstance (pa_cons (pe_ix ix_seq (pv 6) pe_int (fun _ _ => rfl)) (pa_cons (pe_glob (v := .ref DW) (by rfl) XW.g rfl) pa_nil))) pa_nil)))))
      (pss_one (ps_ret (pe_and (pe_cmpR (op_eqD hr1.units) (pv 7) (pe_op op_rep (pe_lst (pa_cons pe_bl pa_nil)) pe_int) (nomark _)) (pe_one (pe_cmpR op_eq (pe_cal h_shape_text hr1 pxE (pa_cons (pv 3) (pa_cons (pe_cal h_read_shape hr1 pxE (pa_cons (pv 3) (pa_cons (pv 4) pa_nil))) pa_nil))) (pv 4) (nomark _))))))))))))))⟩
end
end K2

/-! K3c -/
set_option Elab.async false
set_option linter.all false
set_option autoImplicit false
set_option maxRecDepth 100000
set_option maxHeartbeats 4000000
namespace K2
open PySem PySem.Spec PyProof.Rows L2 Tk
theorem inner_lt : ∀ s : Sh, s.inner < s.size
  | .any | .none | .kind _ => Nat.one_pos
  | .both a b => by
    have := inner_lt a
    have := inner_lt b
    simp only [Sh.inner, Sh.size]
    omega
  | .tied t a => by
    have := inner_lt a
    simp only [Sh.inner, Sh.size]
    omega
/-- a text with 60 opening brackets is no text of a shape -/
theorem rd_many {ks ts : List Str} (hok : Wok ks ts) {n : Str} (h : 60 ≤ (cl n).count 40) : Rd ks ts (.str n) none := fun sh hw hs e => by
  have e : n = sh.txt := by injection e
  have h1 := count_inner hok sh hw
  have h2 := inner_lt sh
  rw [← e] at h1
  omega
theorem rd_other {ks ts : List Str} {d : PyData} (h : ∀ s, d ≠ .str s) : Rd ks ts d none := fun sh hw hs e => h _ e
theorem notShape {ks ts : List Str} {d : PyData} (h : ∀ s : Sh, s.wf ks ts → d ≠ s.dat) : isShape ks ts d = false := by
  cases q : isShape ks ts d with
  | false => rfl
  | true =>
    obtain ⟨s, e, _, hw⟩ := isShape_iff.mp q
    exact absurd e (h s hw)
theorem notShape_str {ks ts : List Str} {n : Str} : isShape ks ts (.str n) = false := notShape fun s _ e => by cases s <;> cases e
/-- no text of a shape has a sign below the blank -/
theorem txt_ge {ks ts : List Str} (hok : Wok ks ts) : ∀ sh : Sh, sh.wf ks ts → ∀ c ∈ cl sh.txt, 32 ≤ c
  | .any, _ => by decide +kernel
  | .none, _ => by decide +kernel
  | .kind k, h => fun c hc => by have := (hok.1 k h).2.2.1 c hc; omega
  | .both a b, h => fun c hc => by
    rw [both_cl] at hc
    simp only [List.mem_append] at hc
    rcases hc with (hc | hc | hc | hc) | hc
    · exact (by decide +kernel : ∀ c ∈ cl "both(", 32 ≤ c) c hc
    · exact txt_ge hok a h.1 c hc
    · exact (by decide +kernel : ∀ c ∈ cl ", ", 32 ≤ c) c hc
    · exact txt_ge hok b h.2 c hc
    · exact (by decide +kernel : ∀ c ∈ cl ")", 32 ≤ c) c hc
  | .tied t a, h => fun c hc => by
    rw [tied_cl] at hc
    simp only [List.mem_append] at hc
    rcases hc with (hc | hc | hc | hc) | hc
    · exact (by decide +kernel : ∀ c ∈ cl "tied(", 32 ≤ c) c hc
    · have := (hok.2 t h.1).2.2.1 c hc; omega
    · exact (by decide +kernel : ∀ c ∈ cl ", ", 32 ≤ c) c hc
    · exact txt_ge hok a h.2 c hc
    · exact (by decide +kernel : ∀ c ∈ cl ")", 32 ≤ c) c hc
theorem rd_nl {ks ts : List Str} (hok : Wok ks ts) : Rd ks ts (.str "any\n") none := fun sh hw hs e => by
  have e : ("any\n" : Str) = sh.txt := by injection e
  have := txt_ge hok sh hw 10 (by rw [← e]; decide +kernel)
  omega
end K2

/-! K3d -/
set_option Elab.async false
set_option linter.all false
set_option autoImplicit false
set_option maxRecDepth 100000
set_option maxHeartbeats 4000000
namespace K2
open PySem PySem.Spec PyProof.Rows L2 Tk
theorem fold_app (a : Array Nat) : ∀ (n : Nat) (acc : Array Nat), ((List.replicate n a).foldl (· ++ ·) acc).toList = acc.toList ++ (List.replicate n a.toList).flatten
  | 0, acc => by simp
  | n + 1, acc => by
    rw [List.replicate_succ, List.foldl_cons, fold_app a n, Array.toList_append, List.replicate_succ, List.flatten_cons, List.append_assoc]
theorem cl_mul (x : Str) (n : Nat) : cl (Txt.mul x (n : Int)) = (List.replicate n (cl x)).flatten := by
  unfold Txt.mul
  split
  · have : n = 0 := by omega
    subst this
    rfl
  · split
    · rename_i h1 h2
      rw [Bool.or_eq_true] at h2
      rcases h2 with h2 | h2
      · have : n = 1 := by have := eq_of_beq h2; omega
        subst this
        simp
      · have h0 : (cl x).length = 0 := by rw [cl_len]; exact eq_of_beq h2
        have h0 : cl x = [] := List.length_eq_zero_iff.mp h0
        rw [h0]
        simp
    · show ((List.replicate _ x.cps).foldl (· ++ ·) #[]).toList = _
      rw [fold_app]
      simp [cl]
theorem count_rep (c : Nat) (l : List Nat) : ∀ n, ((List.replicate n l).flatten).count c = n * l.count c
  | 0 => by simp
  | n + 1 => by
    rw [List.replicate_succ, List.flatten_cons, List.count_append, count_rep c l n, Nat.succ_mul, Nat.add_comm]
theorem count_mul (c : Nat) (x : Str) (n : Nat) : (cl (Txt.mul x (n : Int))).count c = n * (cl x).count c := by rw [cl_mul, count_rep]
theorem len_mulN (x : Str) (n : Nat) : (Txt.mul x (n : Int)).length = n * x.length := by
  rw [← cl_len, cl_mul, List.length_flatten, List.map_replicate, List.sum_replicate_nat, cl_len]
theorem strOk_cl {x : Str} : PyData.strOk x = true ↔ ∀ c ∈ cl x, c < 0x110000 := by
  unfold PyData.strOk
  rw [← Array.all_toList, List.all_eq_true]
  exact ⟨fun h c hc => of_decide_eq_true (h c hc), fun h c hc => decide_eq_true (h c hc)⟩
theorem strOk_mul {x : Str} (h : PyData.strOk x = true) (n : Nat) : PyData.strOk (Txt.mul x (n : Int)) = true := strOk_cl.mpr fun c hc => by
  rw [cl_mul] at hc
  obtain ⟨l, hl, hc⟩ := List.mem_flatten.mp hc
  rw [(List.mem_replicate.mp hl).2] at hc
  exact strOk_cl.mp h c hc
/-- the long shape -/
def ls : Nat → Sh
  | 0 => .any
  | n + 1 => .tied "r" (ls n)
theorem ls_size : ∀ n, (ls n).size = n + 1
  | 0 => rfl
  | n + 1 => by
    show (ls n).size + 1 = _
    rw [ls_size n]
theorem ls_wf : ∀ n, (ls n).wf ["a"] ["r"]
  | 0 => trivial
  | n + 1 => ⟨by simp, ls_wf n⟩
theorem rep_comm {α : Type} (l : List α) : ∀ n, (List.replicate n l).flatten ++ l = l ++ (List.replicate n l).flatten
  | 0 => by simp
  | n + 1 => by rw [List.replicate_succ, List.flatten_cons, List.append_assoc, rep_comm l n]
theorem ls_txt : ∀ n : Nat, cl (ls n).txt = cl ((Txt.mul "tied(r, " (n : Int) ++ "any") ++ Txt.mul ")" (n : Int))
  | 0 => by decide +kernel
  | n + 1 => by
    have ih := ls_txt n
    rw [cl_app, cl_app, cl_mul, cl_mul] at ih ⊢
    show cl (Sh.tied "r" (ls n)).txt = _
    have e : (List.replicate (n + 1) (cl ")")).flatten = (List.replicate n (cl ")")).flatten ++ cl ")" := by
      rw [List.replicate_succ, List.flatten_cons, ← rep_comm]
    rw [tied_cl, ih, e]
    rw [List.replicate_succ, List.flatten_cons, show cl "tied(r, " = cl "tied(" ++ (cl "r" ++ cl ", ") from by decide +kernel]
    simp only [List.append_assoc]
end K2

/-! K3e -/
set_option Elab.async false
set_option linter.all false
set_option autoImplicit false
set_option maxRecDepth 100000
set_option maxHeartbeats 4000000
namespace K2
open PySem PySem.Spec PyProof.Rows L2 Tk
theorem cl_inj' {x y : Str} (h : cl x = cl y) : x = y := by
  cases x with
  | mk a =>
    cases y with
    | mk b =>
      have h : a.toList = b.toList := h
      have : a = b := Array.toList_inj.mp h
      rw [this]
def longT : Str := (Txt.mul "tied(r, " 59 ++ "any") ++ Txt.mul ")" 59
theorem longT_ls : longT = (ls 59).txt := (cl_inj' (ls_txt 59)).symm
def oddD : List PyData := [.none, .int 5, .tuple [.str "kind", .str "Zz"], .list [.str "any"], .str "any\n", .str (("tied(r, " ++ longT) ++ ")"), .str (Txt.mul "(" 5000), .str (Txt.mul "tied(r, " 2000), .str (Txt.mul "both(" 3000 ++ "any")]
theorem wok1 : Wok ["a"] ["r"] := ⟨fun k hk => by
  rw [List.mem_singleton] at hk
  subst hk
  exact ⟨by decide +kernel, by decide +kernel, by decide +kernel, by decide +kernel⟩, fun k hk => by
  rw [List.mem_singleton] at hk
  subst hk
  exact ⟨by decide +kernel, by decide +kernel, by decide +kernel, by decide +kernel⟩⟩
theorem longT_count : (cl longT).count 40 = 59 := by
  unfold longT
  rw [cl_app, cl_app, List.count_append, List.count_append, show (59 : Int) = ((59 : Nat) : Int) from rfl, count_mul 40 "tied(r, " 59, count_mul 40 ")" 59]
  decide +kernel
theorem longT_len : longT.length = 534 := by
  unfold longT
  rw [len_app, len_app, show (59 : Int) = ((59 : Nat) : Int) from rfl, len_mulN "tied(r, " 59, len_mulN ")" 59]
  decide +kernel
theorem longT_ok : PyData.strOk longT = true := strOk_app (strOk_app (strOk_mul (by decide +kernel) 59) (by decide +kernel)) (strOk_mul (by decide +kernel) 59)
structure OddOk (d : PyData) : Prop where
  sz : ∀ s, d = .str s → s.length ≤ sizeLine
  dc : isDic d = false
  rd : Rd ["a"] ["r"] d none
  ns : isShape ["a"] ["r"] d = false
  sd : Sd 60 d
theorem odd_str {s : Str} (h1 : s.length ≤ 100000) (h2 : Rd ["a"] ["r"] (.str s) none) (h3 : PyData.strOk s = true) : OddOk (.str s) := ⟨fun t e => by
  cases e
  exact Nat.le_trans h1 (by decide), rfl, h2, notShape_str, .str h3⟩
theorem odd_ok : ∀ d ∈ oddD, OddOk d := fun d hd => by
  simp only [oddD, List.mem_cons, List.not_mem_nil, or_false] at hd
  rcases hd with rfl | rfl | rfl | rfl | rfl | rfl | rfl | rfl | rfl
  · exact ⟨fun s e => by (cases e), rfl, rd_other fun s e => by (cases e), notShape fun s _ e => by (cases s <;> cases e), .non⟩
  · exact ⟨fun s e => by (cases e), rfl, rd_other fun s e => by (cases e), notShape fun s _ e => by (cases s <;> cases e), .int⟩
  · refine ⟨fun s e => by (cases e), rfl, rd_other fun s e => by (cases e), notShape fun s hw e => ?_, (Sd.tup (k := 0) fun x hx => ?_).up (by decide)⟩
    · cases s with
      | kind k =>
        have hw : k ∈ (["a"] : List Str) := hw
        rw [List.mem_singleton] at hw
        subst hw
        simp only [Sh.dat] at e
        injection e with e
        injection e with _ e
        injection e with e _
        injection e with e
        exact absurd e (by decide +kernel)
      | any => cases e
      | none => cases e
      | both a b => cases e
      | tied t a => cases e
    · simp only [List.mem_cons, List.not_mem_nil, or_false] at hx
      rcases hx with rfl | rfl
      · exact .str (by decide +kernel)
      · exact .str (by decide +kernel)
  · refine ⟨fun s e => by (cases e), rfl, rd_other fun s e => by (cases e), notShape fun s _ e => by (cases s <;> cases e), (Sd.lst (k := 0) fun x hx => ?_).up (by decide)⟩
    rw [List.mem_singleton] at hx
    subst hx
    exact .str (by decide +kernel)
  · exact odd_str (by decide +kernel) (rd_nl wok1) (by decide +kernel)
  · refine odd_str ?_ (rd_many wok1 ?_) (strOk_app (strOk_app (by decide +kernel) longT_ok) (by decide +kernel))
    · rw [len_app, len_app, longT_len]
      decide +kernel
    · rw [cl_app, cl_app, List.count_append, List.count_append, longT_count]
      decide +kernel
  · refine odd_str ?_ (rd_many wok1 ?_) (strOk_mul (by decide +kernel) 5000)
    · rw [show (5000 : Int) = ((5000 : Nat) : Int) from rfl, len_mulN "(" 5000]
      decide +kernel
    · rw [show (5000 : Int) = ((5000 : Nat) : Int) from rfl, count_mul 40 "(" 5000]
      decide +kernel
  · refine odd_str ?_ (rd_many wok1 ?_) (strOk_mul (by decide +kernel) 2000)
    · rw [show (2000 : Int) = ((2000 : Nat) : Int) from rfl, len_mulN "tied(r, " 2000]
      decide +kernel
    · rw [show (2000 : Int) = ((2000 : Nat) : Int) from rfl, count_mul 40 "tied(r, " 2000]
      decide +kernel
  · refine odd_str ?_ (rd_many wok1 ?_) (strOk_app (strOk_mul (by decide +kernel) 3000) (by decide +kernel))
    · rw [show (3000 : Int) = ((3000 : Nat) : Int) from rfl, len_app, len_mulN "both(" 3000]
      decide +kernel
    · rw [show (3000 : Int) = ((3000 : Nat) : Int) from rfl, cl_app, List.count_append, count_mul 40 "both(" 3000]
      have : (cl "both(").count 40 = 1 := by decide +kernel
      omega
end K2

/-! K3f -/
set_option Elab.async false
set_option linter.all false
set_option autoImplicit false
set_option maxRecDepth 100000
set_option maxHeartbeats 4000000
namespace K2
open PySem PySem.Spec PyProof.Rows L2 Tk
/-- in law: some state of the draws, the tables -/
def WE (a la ca p2 p : Addr) (cells : List Int) : Hp → Prop := fun H => ∃ d : Dst, d.cells = cells ∧ WX_ a la ca d (fun H => LamX.TabS H p2 qR ∧ LamX.TabS H p qL) H
theorem tab2_fr {c : Cn} {a la ca p2 p : Addr} (h2 : c.P p2) (h1 : c.P p) : Fr c a la ca (fun H => LamX.TabS H p2 qR ∧ LamX.TabS H p qL) where
  fr := fun d H H' hs w ⟨t2, t1⟩ => ⟨(tab_fr (c := c) (a := a) (la := la) (ca := ca) h2).fr d H H' hs w t2, (tab_fr (c := c) (a := a) (la := la) (ca := ca) h1).fr d H H' hs w t1⟩
  st := fun H H' k ⟨t2, t1⟩ => ⟨(tab_fr (c := c) (a := a) (la := la) (ca := ca) h2).st H H' k t2, (tab_fr (c := c) (a := a) (la := la) (ca := ca) h1).st H H' k t1⟩
/-- out of WE -/
theorem run_WE {c : Cn} {a la ca p2 p : Addr} {cells : List Int} {G : List (Option En)} {t : TS} {o : Out} (ha : c.P a) (hl : c.P la) (h2 : c.P p2) (h1 : c.P p) (h : ∀ d : Dst, d.cells = cells → RunS c ⟨WX_ a la ca d (fun H => LamX.TabS H p2 qR ∧ LamX.TabS H p qL), G⟩ t o) : RunS c ⟨WE a la ca p2 p cells, G⟩ t o := fun A σ H L D w => by
  obtain ⟨d, e, hw⟩ := L.wk
  have L' : Sl c A ⟨WX_ a la ca d (fun H => LamX.TabS H p2 qR ∧ LamX.TabS H p qL), G⟩ σ H := L.wk' hw fun H H' k ⟨w1, w2⟩ => ⟨Drw.st ha hl H H' k w1, (tab2_fr (c := c) (a := a) (la := la) (ca := ca) h2 h1).st H H' k w2⟩
  exact h d e A σ H L' D w
theorem tab_kept {a la ca p2 p : Addr} {d : Dst} {q q2 : Str} {H H' : Hp} (np : p ≠ p2) (hs : ∀ b o, b ≠ a → b ≠ la → b ≠ p2 → H b = some o → H' b = some o) (hd : Drw a la ca d H) (t2 : LamX.TabS H p2 q2) (t : LamX.TabS H p q) : LamX.TabS H' p q := by
  obtain ⟨w1, w2⟩ := hd
  obtain ⟨ps2, e2, _⟩ := t2
  obtain ⟨ps, e, tri, among⟩ := t
  refine ⟨ps, hs _ _ (fun z => by rw [z, w1] at e; cases e) (fun z => by rw [z, w2] at e; cases e) np e, tri, fun pos cv hc => ?_⟩
  obtain ⟨c0, e1, e3⟩ := among pos cv hc
  refine ⟨c0, e1, hs _ _ (fun z => ?_) (fun z => ?_) (fun z => ?_) e3⟩
  · rw [z, w1] at e3
    unfold LamX.CodeO at e3
    cases e3
  · rw [z, w2] at e3
    unfold LamX.CodeO at e3
    cases e3
  · rw [z, e2] at e3
    unfold LamX.CodeO at e3
    cases e3
theorem ev_callR {c : Cn} {S : Stt} {G : List (Option En)} {ta : TA} {a la ca p2 p : Addr} {cells : List Int} {E : XK} (D : DrX c a la ca cells) (m2 : c.Mt p2) (h1 : c.P p) (np : p ≠ p2) (h : EvA c S ta [.raw (.ref a)] ⟨WE a la ca p2 p cells, G⟩) :
    EvS c S (tCall (spR c.K p2 qR) [] E ta) (.d (.bool true)) ⟨WE a la ca p2 p cells, G⟩ := fun A σ H L Q q => h A σ H L _ fun vs H1 L1 e1 r1 => by
  cases r1 with
  | cons r0 r1 =>
    cases r0
    cases r1
    obtain ⟨d, rfl, hd, t2, t1⟩ := L1.wk
    have seen : ¬ (c.P ca ∨ Stt.owns ⟨WE a la ca p2 p d.cells, G⟩ A ca) := fun z => by
      rcases z with z | ⟨j, ds, e, rfl⟩
      · exact D.np z
      · obtain ⟨_, e2, _⟩ := L1.own j ds e
        rw [D.h0] at e2
        cases e2
    have nm : ¬ c.Mt ca := fun z => D.np (c.mp _ z)
    refine ⟨a, la, ca, d, fun b => c.P b ∨ Stt.owns ⟨WE a la ca p2 p d.cells, G⟩ A b, rfl, ⟨hd, t2⟩, .inl (c.mp _ D.ma), .inl (c.mp _ D.ml), .inl (c.mp _ m2), seen, L1.sm ca _ nm D.h0, fun b hb => L1.hidAlive hb, fun d' H' hcl hs hw => ?_⟩
    have t1' := tab_kept np hs hd t2 t1
    obtain ⟨L2, s2⟩ := L1.mut (H' := H') (W' := WE a la ca p2 p d.cells) (fun b o m e => hs b o (fun z => m (z ▸ D.ma)) (fun z => m (z ▸ D.ml)) (fun z => m (z ▸ m2)) e) (fun b m z => by
        by_cases k1 : b = a
        · rw [k1, hw.1.1] at z
          cases z
        · by_cases k2 : b = la
          · rw [k2, hw.1.2] at z
            cases z
          · by_cases k3 : b = p2
            · obtain ⟨_, k, _⟩ := hw.2
              rw [k3, k] at z
              cases z
            · cases e : H1 b with
              | none => exact L1.al b (c.mp b m) e
              | some o =>
                rw [hs b o k1 k2 k3 e] at z
                cases z) ⟨d', hcl, hw.1, hw.2, t1'⟩ L1.wst
    exact q _ H' L2 (e1.trans s2) (Dt.bl true)
end K2

/-! K3g -/
set_option Elab.async false
set_option linter.all false
set_option autoImplicit false
set_option maxRecDepth 100000
set_option maxHeartbeats 4000000
namespace K2
open PySem PySem.Spec PyProof.Rows L2 Tk
theorem tabs_empty {H : Hp} {p : Addr} {q : Str} (h : H p = some (.tbl #[])) : LamX.TabS H p q := ⟨#[], h, by first | exact trivial | exact .nil | simp [TriplesOk] | decide, fun pos cv hc => by cases hc⟩
def spL (K : PySem.W.Frag) (p2 p : Addr) : Sp := fun vs H Q E => ∃ (a : Addr) (ns : List Int), vs = [.ref a] ∧ SqL K H a (ns.map V.int) ∧ ns.length ≤ 100000 ∧ H p2 = some (.tbl #[]) ∧ H p = some (.tbl #[]) ∧ ∀ H', Q (.bl true) H'
theorem lw_begin {K : PySem.W.Frag} {C : Addr} {a p2 p : Addr} {ns : List Int} {H : Hp} {Q : VK} {E : XK} {t : TS} (np : p ≠ p2) (hS : SqL K H a (ns.map V.int)) (hl : ns.length ≤ 100000) (t2 : H p2 = some (.tbl #[])) (t1 : H p = some (.tbl #[])) (hq : ∀ H', Q (.bl true) H')
    (run : ∀ (c : Cn) (pd la ca : Addr), c.K = K → c.C = C → c.n = 8 → DrX c pd la ca (ns.map ab) → c.Mt p2 → c.Mt p → (∀ A S σ H2, Sl c A S σ H2 → SqL c.K (hid c A S H2) a (ns.map V.int)) → RunS c ⟨WE pd la ca p2 p (ns.map ab), (S0 8 [.raw (.ref a), .raw (.ref pd)]).G⟩ t (.rt (.d (.bool true)) fun _ => True)) :
    tSeq (tAsg (tCall (spB K) [] E (tCons (tVar 0) tNil)) (gName 1)) t { nx := fun _ H' => Q .non H', rt := Q } (L2.start ["script", "draw", "lap", "words", "long", "odd", "errors", "kinds"] [.ref a]) H := by
  refine ⟨.ref a, rfl, a, ns, rfl, hS, hl, fun pd la ca H' same hp hla hca n1 n2 n3 hd hc => ?_⟩
  have a2 : H' p2 = some (.tbl #[]) := same _ _ t2
  have a1 : H' p = some (.tbl #[]) := same _ _ t1
  obtain ⟨R, hR⟩ : ∃ R : Addr → Prop, R = fun b => b = pd ∨ b = la ∨ b = p2 ∨ b = p := ⟨_, rfl⟩
  have rd : R pd := by rw [hR]; exact .inl rfl
  have rl : R la := by rw [hR]; exact .inr (.inl rfl)
  have r2 : R p2 := by rw [hR]; exact .inr (.inr (.inl rfl))
  have r1 : R p := by rw [hR]; exact .inr (.inr (.inr rfl))
  have rc : ¬ R ca := by
    rw [hR]
    rintro (z | z | z | z)
    · exact n2 z.symm
    · exact n3 z.symm
    · rw [z, a2] at hc
      cases hc
    · rw [z, a1] at hc
      cases hc
  have al : ∀ b, R b → H' b ≠ none := by
    rw [hR]
    rintro b (rfl | rfl | rfl | rfl) z
    · rw [hd.1] at z
      cases z
    · rw [hd.2] at z
      cases z
    · rw [a2] at z
      cases z
    · rw [a1] at z
      cases z
  have L := sl_start (K := K) (C := C) (N := ["script", "draw", "lap", "words", "long", "odd", "errors", "kinds"]) (vs := [.ref a, .ref pd]) (xs := [.raw (.ref a), .raw (.ref pd)]) (H := H') (R := R) (Mt := R) (W := WE pd la ca p2 p (ns.map ab)) (fun _ z => z) (.cons rfl (.cons rfl .nil)) al (show 2 ≤ 8 by decide) ⟨d0 ns, rfl, hd, .nil a2, .nil a1⟩
    (fun H0 H' k ⟨d, e, w1, w2⟩ => ⟨d, e, Drw.st rd rl H0 H' k w1, (tab2_fr (c := ⟨K, C, H', R, R, fun _ z => z, 8⟩) (a := pd) (la := la) (ca := ca) r2 r1).st H0 H' k w2⟩)
  refine run ⟨K, C, H', R, R, fun _ z => z, 8⟩ pd la ca rfl rfl rfl ⟨rd, rl, rc, hc⟩ r2 r1 (fun A S σ H2 L2 => ?_) _ _ _ L _ fun v H2 lf rv => ?_
  · have key : ∀ o, H a = some o → o ≠ .tbl #[] → hid ⟨K, C, H', R, R, fun _ z => z, 8⟩ A S H2 a = some o := fun o e ne => by
      have nR : ¬ R a := by
        rw [hR]
        rintro (z | z | z | z)
        · rw [z, hp] at e
          cases e
        · rw [z, hla] at e
          cases e
        · rw [z, t2] at e
          exact ne (Option.some.inj e).symm
        · rw [z, t1] at e
          exact ne (Option.some.inj e).symm
      show hidP _ _ a = _
      rw [hidP_neg]
      · exact L2.sm a o nR (same _ _ e)
      · rintro (z | ⟨i, ds, q, z⟩)
        · exact nR z
        · obtain ⟨_, e2, _⟩ := L2.own i ds q
          rw [← z] at e2
          have e2 : H' a = none := e2
          rw [same _ _ e] at e2
          cases e2
    rcases hS with (h | ⟨o, h⟩) | h
    · exact .inl (.inl (key _ h (fun z => by cases z)))
    · exact .inl (.inr ⟨o, key _ h (fun z => by cases z)⟩)
    · exact .inr h
  · have hv : v = V.bl true := Dt.bl_inv rv
    rw [hv]
    exact hq H2
end K2

/-! K3h -/
set_option Elab.async false
set_option linter.all false
set_option autoImplicit false
set_option maxRecDepth 100000
set_option maxHeartbeats 4000000

namespace K2
open PySem PySem.Spec PyProof.Rows L2 Tk
theorem dta_rep {K : PySem.W.Frag} {H : Hp} {vs : List V} {ds : List PyData} (h : DtA K H vs ds) : ∀ k : Nat, DtA K H (List.replicate k vs).flatten (List.replicate k ds).flatten
  | 0 => .nil
  | k + 1 => by
    rw [List.replicate_succ, List.replicate_succ, List.flatten_cons, List.flatten_cons]
    exact h.app (dta_rep h k)
theorem rv_rep {c : Cn} {S : Stt} {ds : List PyData} {k : Nat} (h : ds.length * k ≤ 1000 ∧ k ≤ 1000) : RvS c S rRep (.d (.list ds)) (.d (.int (k : Int))) (.d (.list (List.replicate k ds).flatten)) := fun A σ H L v u rv ru Q q => by
  obtain ⟨a, vs, rfl, h1, h2⟩ := Dt.lst_inv rv
  obtain rfl := Dt.int_inv ru
  have hl := h2.len
  refine ⟨a, (k : Int), vs, rfl, rfl, hidP_le _ _ h1, by omega, by omega, ?_, fun p hp => ?_⟩
  · rw [hl]
    exact Nat.le_trans h.1 (by decide)
  obtain ⟨L2, s2⟩ := L.grow (same_new (o := .lst (List.replicate k vs).flatten) hp)
  refine q _ _ (same_new hp) (Dt.lst ?_ ((dta_rep h2 k).mono s2))
  show hidP _ _ p = _
  rw [hidP_neg (L.new hp), upd_same]
  rfl
theorem mo1 : MulOk "tied(r, " 59 := by unfold MulOk; decide +kernel
theorem mo2 : MulOk ")" 59 := by unfold MulOk; decide +kernel
theorem mo3 : MulOk "(" 5000 := by unfold MulOk; decide +kernel
theorem mo4 : MulOk "tied(r, " 2000 := by unfold MulOk; decide +kernel
theorem mo5 : MulOk "both(" 3000 := by unfold MulOk; decide +kernel
theorem lo1 : (Txt.mul "tied(r, " 59).length + ("any" : Str).length ≤ sizeLine := by
  rw [show (59 : Int) = ((59 : Nat) : Int) from rfl, len_mulN "tied(r, " 59]
  decide +kernel
theorem lo2 : (Txt.mul "tied(r, " 59 ++ "any").length + (Txt.mul ")" 59).length ≤ sizeLine := by
  have := longT_len
  unfold longT at this
  rw [len_app] at this
  rw [this]
  decide +kernel
theorem lo5 : (Txt.mul "both(" 3000).length + ("any" : Str).length ≤ sizeLine := by
  rw [show (3000 : Int) = ((3000 : Nat) : Int) from rfl, len_mulN "both(" 3000]
  decide +kernel
abbrev lwS (pd la ca p2 p a : Addr) (d : Dst) (e2 e5 e6 e7 : Option En) : Stt := ⟨WX_ pd la ca d (fun H => LamX.TabS H p2 qR ∧ LamX.TabS H p qL), [some (.x (.raw (.ref a))), some (.x (.raw (.ref pd))), e2, some (.x (.w ["a"] ["r"])), some (.x (.d (.str longT))), e5, e6, e7]⟩
theorem tab_but {p2 p : Addr} {q q2 : Str} {H H1 : Hp} (np : p ≠ p2) (hs : ButP p H H1) (t : LamX.TabS H p q) (t2 : LamX.TabS H p2 q2) : LamX.TabS H1 p2 q2 := by
  obtain ⟨ps, e, _⟩ := t
  obtain ⟨ps2, e2, tri, among⟩ := t2
  refine ⟨ps2, hs _ _ (Ne.symm np) e2, tri, fun pos cv hc => ?_⟩
  obtain ⟨c0, e1, e3⟩ := among pos cv hc
  refine ⟨c0, e1, hs _ _ (fun z => ?_) e3⟩
  rw [z, e] at e3
  unfold LamX.CodeO at e3
  cases e3
section
variable {P : Program} {w : World} {K : PySem.W.Frag} {mg : Str → Option Value} {base : Heap} {C : Addr}

theorem ok_lw {f c0 p p2 DW DS DT CE gk fi : Addr} {fd fdk fdi : FuncData} (F : Fun K "law" "law" sLW f fd) (hcode : fd.code = .ref c0) (np : p ≠ p2) (M : MT P w K mg base C) (XB : XT K mg "BadText" DT) (XS : XT K mg "BadShape" DS) (XW : XT K mg "BadWords" DW) (XCT : ExcC K DT) (XCS : ExcC K DS) (XCW : ExcC K DW)
    (eT : PySem.W.exmOne K (.ref DT) (.ref CE) = some true) (eS : PySem.W.exmOne K (.ref DS) (.ref CE) = some true) (eW : PySem.W.exmOne K (.ref DW) (.ref CE) = some true)
    (h__law_begun : Cal P w K mg base "_law_begun" 130 ["script"] (spB K)) (h__law_right : Cal P w K mg base "_law_right" 130 ["draw"] (spR K p2 qR)) (h__law_pick : Cal P w K mg base "_law_pick" 130 ["draw", "some"] (spD K C mPK)) (h_shape_text : Cal P w K mg base "shape_text" 130 ["words", "shape"] (spF K C (mST DW DS))) (h_read_shape : Cal P w K mg base "read_shape" 130 ["words", "text"] (spF K C (mRS DW DT)))
    (MK : Mk K C fi) (FI : FnOk P w K mg base (L2.CX P w) 4 fi fdi ["self", "kinds", "ties"] (spInit K C)) (BI : L2.Binds K fdi ["self", "kinds", "ties"] []) (DC : Df K mg "_law_caught" sCA ["work"] gk fdk) (hKE : mg "KindError" = some (.ref CE)) (TB : LamX.TabB base mg c0 p) :
    FnOk P w K mg base (L2.CX P w) 134 f fd ["script"] (spL K p2 p) := by
  refine okC F hcode scLW (fun vs H Q E ⟨_, _, h, _⟩ => by rw [h]; rfl) fun A outer s H vs Q E hr ⟨a, ns, h1, hS, hl, t2, t1, hq⟩ => ?_
  subst h1
  obtain ⟨oc, od, kV, doc, pm, an, cdv, ct, osl, rfl, lkg, hcg⟩ := DC.F.ex
  have hr1 : Room 130 _ := hr.mono (by decide)
  have hr2 : Room 132 _ := hr.mono (by decide)
  refine ⟨_, (pss_cons (ps_set (i := 1) scLW.nd rfl (.inl rfl) (pe_cal h__law_begun hr1 pxE (pa_cons (pv 0) pa_nil)))
      (pss_cons (ps_for pown rfl (pi_range1 (by rfl) (M.B "range" (by decide)) (pa_cons (pe_op op_add pe_int (pe_callB (call_min2 rfl) (by rfl) (M.B "min" (by decide)) boot_min (pa_cons (pe_callB call_lenSq (by rfl) (M.B "len" (by decide)) boot_len (pa_cons (pv 0) pa_nil)) (pa_cons pe_int pa_nil)))) pa_nil)) (pg_name (i := 2) scLW.nd rfl (.inl rfl)) (pss_one (ps_if (pt_not (pt_val (pe_cal h__law_right hr1 pxE (pa_cons (pv 1) pa_nil)))) (pss_one (ps_ret pe_bl)) pss_nil)))
      (pss_cons (ps_asg (pe_tup (pa_cons (pe_make MK FI (hr1.mono (by decide)) (by rfl) M.W.gC BI .nil pxE (pa_cons (pe_lst (pa_cons pe_str pa_nil)) (pa_cons (pe_lst (pa_cons pe_str pa_nil)) pa_nil))) (pa_cons (pe_op op_addStr (pe_op op_addStr (pe_op op_mulS pe_str pe_int) pe_str) (pe_op op_mulS pe_str pe_int)) pa_nil))) (pg_tup (n := 2) rfl (pgs_cons (pg_name (i := 3) scLW.nd rfl (.inr rfl)) (pgs_cons (pg_name (i := 4) scLW.nd rfl (.inl rfl)) pgs_nil))))
      (pss_cons (ps_set (i := 5) scLW.nd rfl (.inr rfl) (pe_cal h__law_pick hr1 pxE (pa_cons (pv 1) (pa_cons (pe_lst (pa_cons pe_non (pa_cons pe_int (pa_cons (pe_tup (pa_cons pe_str (pa_cons pe_str pa_nil))) (pa_cons (pe_lst (pa_cons pe_str pa_nil)) (pa_cons pe_str (pa_cons (pe_op op_addStr (pe_op op_addStr pe_str (pv 4)) pe_str) (pa_cons (pe_op op_mulS pe_str pe_int) (pa_cons (pe_op op_mulS pe_str pe_int) (pa_cons (pe_op op_addStr (pe_op op_mulS pe_str pe_int) pe_str) pa_nil)))))))))) pa_nil))))
      (pss_cons (ps_set (i := 6) scLW.nd rfl (.inl rfl) (pe_lst (pa_cons (pe_lamP (x := "_law_caught") (a := "work") (Ng := ["work", "caught", "error"]) (p := p) (q := qL) (k := 130) (t := fun E => tCall (spF K C (mRS DW DT)) [] E (tCons (tVar 3) (tCons (tVar 5) tNil))) (by rfl) DC.g DC.F.kp lkg hcg DC.b scCA rfl (.inl rfl) (caught_gives hKE) TB (by rfl) (by exact (congrArg (fun z : Str => z ++ ("<lambda>" : Str)) qual_cx).symm) hr2 (LamX.lamS_by (by rfl)) (by rfl) (fun _ _ _ _ _ => rfl) (fun A2 outer2 s2 H2 E2 f2 c2 hr3 => by exact pe_cal h_read_shape hr3 pxLam (pa_cons (pv 3) (pa_cons (pv 5) pa_nil)))) pa_nil)))
      (pss_cons (ps_expr (pe_bm PySem.F.plainAttrs_list PySem.F.slot_list_append PySem.F.type_list_append mt_append (pv 6) (pa_cons (pe_lamP (x := "_law_caught") (a := "work") (Ng := ["work", "caught", "error"]) (p := p) (q := qL) (k := 130) (t := fun E => tCall (spF K C (mST DW DS)) [] E (tCons (tVar 3) (tCons (tVar 5) tNil))) (by rfl) DC.g DC.F.kp lkg hcg DC.b scCA rfl (.inl rfl) (caught_gives hKE) TB (by rfl) (by exact (congrArg (fun z : Str => z ++ ("<lambda>" : Str)) qual_cx).symm) hr2 (LamX.lamS_by (by rfl)) (by rfl) (fun _ _ _ _ _ => rfl) (fun A2 outer2 s2 H2 E2 f2 c2 hr3 => by exact pe_cal h_shape_text hr3 pxLam (pa_cons (pv 3) (pa_cons (pv 5) pa_nil)))) pa_nil)))
      (pss_cons (ps_expr (pe_bm PySem.F.plainAttrs_list PySem.F.slot_list_append PySem.F.type_list_append mt_append (pv 6) (pa_cons (pe_lamP (x := "_law_caught") (a := "work") (Ng := ["work", "caught", "error"]) (p := p) (q := qL) (k := 130) (t := fun E => tCall (spF K C (mRS DW DT)) [] E (tCons (tC .non) (tCons (tVar 5) tNil))) (by rfl) DC.g DC.F.kp lkg hcg DC.b scCA rfl (.inl rfl) (caught_gives hKE) TB (by rfl) (by exact (congrArg (fun z : Str => z ++ ("<lambda>" : Str)) qual_cx).symm) hr2 (LamX.lamS_by (by rfl)) (by rfl) (fun _ _ _ _ _ => rfl) (fun A2 outer2 s2 H2 E2 f2 c2 hr3 => by exact pe_cal h_read_shape hr3 pxLam (pa_cons pe_non (pa_cons (pv 5) pa_nil)))) pa_nil)))
      (pss_cons (ps_set (i := 7) scLW.nd rfl (.inl rfl) (pe_lst (pa_cons (pe_callB call_isX (by rfl) (M.B "isinstance" (by decide)) boot_isinstance (pa_cons (pe_ix ix_seq (pv 6) pe_int (fun _ _ => rfl)) (pa_cons (pe_glob (v := .ref DT) (by rfl) XB.g rfl) pa_nil))) (pa_cons (pe_callB call_isX (by rfl) (M.B "isinstance" (by decide)) boot_isinstance (pa_cons (pe_ix ix_seq (pv 6) pe_int (fun _ _ => rfl)) (pa_cons (pe_glob (v := .ref DS) (by rfl) XS.g rfl) pa_nil))) (pa_cons (pe_callB call_isX (by rfl) (M.B "isinstance" (by decide)) boot_isinstance (pa_cons (pe_ix ix_seq (pv 6) pe_int (fun _ _ => rfl)) (pa_cons (pe_glob (v := .ref DW) (by rfl) XW.g rfl) pa_nil))) pa_nil)))))
      (pss_one (ps_ret (pe_and (pe_cmpR (op_eqD hr1.units) (pv 7) (pe_op op_rep (pe_lst (pa_cons pe_bl pa_nil)) pe_int) (nomark _)) (pe_one (pe_cmpR op_eq (pe_cal h_shape_text hr1 pxE (pa_cons (pv 3) (pa_cons (pe_cal h_read_shape hr1 pxE (pa_cons (pv 3) (pa_cons (pv 4) pa_nil))) pa_nil))) (pv 4) (nomark _)))))))))))))), ?_⟩
  refine lw_begin (C := C) np hS hl t2 t1 hq fun c pd la ca hK hC hn D m2 m1 hsq => ?_
  subst hK hC
  have n0 : 0 < c.n := by rw [hn]; decide
  have n1 : 1 < c.n := by rw [hn]; decide
  have n3 : 3 < c.n := by rw [hn]; decide
  have n4 : 4 < c.n := by rw [hn]; decide
  have n5 : 5 < c.n := by rw [hn]; decide
  have n6 : 6 < c.n := by rw [hn]; decide
  have n7 : 7 < c.n := by rw [hn]; decide
  obtain ⟨S1, hS1⟩ : ∃ S1 : Option En → Stt, S1 = fun e2 => ⟨WE pd la ca p2 p (ns.map ab), [some (.x (.raw (.ref a))), some (.x (.raw (.ref pd))), e2, none, none, none, none, none]⟩ := ⟨_, rfl⟩
  have elen : EvS c (S1 none) (tCB (rLenSq c.K) (tCons (tVar 0) tNil)) (.d (.int (ns.length : Int))) (S1 none) := fun A σ H L Q q => by
    obtain ⟨v, e1, e2⟩ := L.val 0 (.raw (.ref a)) n0 (by rw [hS1]; rfl)
    refine ⟨v, e1, a, ns.map V.int, by rw [show v = V.ref a from e2], .inl (sqL_at (fun o e => hidP_le _ _ e) (hsq A _ σ H L)), ?_⟩
    rw [List.length_map]
    exact q _ H L (Same.refl _) (Dt.int _)
  have emin : EvS c (S1 none) (tCB (fun xs H Q => ∃ i j, xs = [V.int i, V.int j] ∧ Q (.int (if j < i then j else i)) H) (tCons (tCB (rLenSq c.K) (tCons (tVar 0) tNil)) (tCons (tC (.int 6)) tNil))) (.d (.int (if (6 : Int) < (ns.length : Int) then 6 else (ns.length : Int)))) (S1 none) := fun A σ H L Q q => elen A σ H L _ fun v H1 L1 e1 r1 => ⟨_, 6, by rw [show v = V.int (ns.length : Int) from Dt.int_inv r1], q _ H1 L1 e1 (Dt.int _)⟩
  have hm : (0 : Int) ≤ 4 + (if (6 : Int) < (ns.length : Int) then 6 else (ns.length : Int)) ∧ 4 + (if (6 : Int) < (ns.length : Int) then 6 else (ns.length : Int)) ≤ 100000 := by
    split <;> omega
  refine run_forQ (fun _ S => ∃ e2, S = S1 e2) (fun S => ∃ e2, S = S1 e2) (S1 := S1 none) (by
    have := ei_range (ea_cons (ev_op (ev_int (i := 4)) emin (rv_int (g := fun i j => i + j))) ea_nil) hm.1 hm.2
    rw [hS1] at this ⊢
    exact this) ⟨none, rfl⟩ ?_ (fun S h => h) ?_
  · rintro x r S ⟨e2, rfl⟩
    refine .step (S1 := S1 (some (.x x))) (S2 := S1 (some (.x x))) (by rw [hS1]; exact asg_name) ?_ ⟨_, rfl⟩
    have er : EvS c (S1 (some (.x x))) (tCall (spR c.K p2 qR) [] E (tCons (tVar 1) tNil)) (.d (.bool true)) (S1 (some (.x x))) := by
      rw [hS1]
      exact ev_callR D m2 (c.mp _ m1) np (ea_cons (ev_var n1 rfl) ea_nil)
    exact run_ifF (eb_not (eb_B er)) run_next
  · rintro S ⟨e2, rfl⟩
    rw [hS1]
    refine run_WE (c.mp _ D.ma) (c.mp _ D.ml) (c.mp _ m2) (c.mp _ m1) fun d hd => ?_
    have D1 : DrX c pd la ca d.cells := by rw [hd]; exact D
    have FR : Fr c pd la ca (fun H => LamX.TabS H p2 qR ∧ LamX.TabS H p qL) := tab2_fr (c.mp _ m2) (c.mp _ m1)
    have big : (100000 : Nat) ≤ sizeLine := by decide
    have g1 : GoodW ["a"] ["r"] := ⟨wok1.1, by decide +kernel, by decide, wok1.2, by decide +kernel, by decide, by decide +kernel⟩
    refine run_seq (S1 := lwS pd la ca p2 p a d e2 none none none) (run_asgT2 (i := 3) (j := 4) (ev_mkW (ks := ["a"]) (ts := ["r"]) (ea_cons (ev_lst (ds := [.str "a"]) (ea_cons ev_str ea_nil) (by decide)) (ea_cons (ev_lst (ds := [.str "r"]) (ea_cons ev_str ea_nil) (by decide)) ea_nil)) g1)
      (ev_is (ev_op (ev_op (ev_op ev_str ev_int (rv_mulS (j := 59) mo1)) ev_str (rv_addS lo1)) (ev_op ev_str ev_int (rv_mulS (j := 59) mo2)) (rv_addS lo2)) (w := .d (.str longT)) rfl)) ?_
    have v4 : EvS c (lwS pd la ca p2 p a d e2 none none none) (tVar 4) (.d (.str longT)) (lwS pd la ca p2 p a d e2 none none none) := ev_var n4 rfl
    have h9 := pickI_lt d (n := 9) (by decide)
    obtain ⟨odd, hodd⟩ : ∃ odd, oddD[pickI d 9]? = some odd := ⟨_, List.getElem?_eq_getElem (show pickI d 9 < oddD.length from h9)⟩
    obtain ⟨osz, odc, ord, ons, osd⟩ := odd_ok odd (List.mem_of_getElem? hodd)
    have l5 : ("tied(r, " : Str).length + longT.length ≤ sizeLine := by
      rw [longT_len]
      decide +kernel
    have l6 : ("tied(r, " ++ longT : Str).length + (")" : Str).length ≤ sizeLine := by
      rw [len_app, longT_len]
      decide +kernel
    have eo : EvS c (lwS pd la ca p2 p a d e2 none none none) _ (.d (.list oddD)) (lwS pd la ca p2 p a d e2 none none none) := ev_lst (ds := oddD) (ea_cons ev_non (ea_cons ev_int (ea_cons (ev_tup (ds := [.str "kind", .str "Zz"]) (ea_cons ev_str (ea_cons ev_str ea_nil)) (by decide)) (ea_cons (ev_lst (ds := [.str "any"]) (ea_cons ev_str ea_nil) (by decide)) (ea_cons ev_str (ea_cons (ev_op (ev_op ev_str v4 (rv_addS l5)) ev_str (rv_addS l6)) (ea_cons (ev_op ev_str ev_int (rv_mulS mo3)) (ea_cons (ev_op ev_str ev_int (rv_mulS mo4)) (ea_cons (ev_op (ev_op ev_str ev_int (rv_mulS mo5)) ev_str (rv_addS lo5)) ea_nil))))))))) (show 9 ≤ 1000 by decide)
    refine run_seq (S1 := lwS pd la ca p2 p a (takeS d 9) e2 (some (.x (.d odd))) none none) (run_set (i := 5) (ev_callDX (m := mPK) (E := E) D1 FR (ea_cons (ev_var n1 rfl) (ea_cons eo ea_nil)) ⟨oddD, odd, .inl rfl, (by decide : 0 < 9), (by decide : 9 ≤ 1000), hodd, rfl, rfl⟩)) ?_
    generalize takeS d 9 = d9
    have hT : ∀ {e6 e7 : Option En} (H : Hp), (lwS pd la ca p2 p a d9 e2 (some (.x (.d odd))) e6 e7).W H → LamX.TabS H p qL := fun H h => h.2.2
    have hWW : ∀ {e6 e7 : Option En} (H H1 : Hp), ButP p H H1 → LamX.TabS H1 p qL → (lwS pd la ca p2 p a d9 e2 (some (.x (.d odd))) e6 e7).W H → (lwS pd la ca p2 p a d9 e2 (some (.x (.d odd))) e6 e7).W H1 := fun H H1 st t1 ⟨⟨w1, w2⟩, t2, t⟩ => by
      obtain ⟨pq, k, _⟩ := t
      exact ⟨⟨st pd _ (fun z => by rw [z, k] at w1; cases w1) w1, st la _ (fun z => by rw [z, k] at w2; cases w2) w2⟩, tab_but np st ⟨pq, k, by assumption⟩ t2, t1⟩
    have v3 : ∀ {e6 e7 : Option En}, EvS c (lwS pd la ca p2 p a d9 e2 (some (.x (.d odd))) e6 e7) (tVar 3) (.w ["a"] ["r"]) (lwS pd la ca p2 p a d9 e2 (some (.x (.d odd))) e6 e7) := ev_var n3 rfl
    have v4 : ∀ {e6 e7 : Option En}, EvS c (lwS pd la ca p2 p a d9 e2 (some (.x (.d odd))) e6 e7) (tVar 4) (.d (.str longT)) (lwS pd la ca p2 p a d9 e2 (some (.x (.d odd))) e6 e7) := ev_var n4 rfl
    have v5 : ∀ {e6 e7 : Option En}, EvS c (lwS pd la ca p2 p a d9 e2 (some (.x (.d odd))) e6 e7) (tVar 5) (.d odd) (lwS pd la ca p2 p a d9 e2 (some (.x (.d odd))) e6 e7) := ev_var n5 rfl
    have x1 := fun (e6 e7 : Option En) => ev_lamEx (c := c) (CE := CE) (D := DT) (S := lwS pd la ca p2 p a d9 e2 (some (.x (.d odd))) e6 e7) (t := fun E => tCall (spF c.K c.C (mRS DW DT)) [] E (tCons (tVar 3) (tCons (tVar 5) tNil))) m1 hT hWW eT fun E => exx_callF (m := mRS DW DT) (ea_cons v3 (ea_cons v5 ea_nil)) (.inl ⟨["a"], ["r"], odd, none, rfl, wok1, osz, odc, ord, rfl⟩)
    have x2 := fun (e6 e7 : Option En) => ev_lamEx (c := c) (CE := CE) (D := DS) (S := lwS pd la ca p2 p a d9 e2 (some (.x (.d odd))) e6 e7) (t := fun E => tCall (spF c.K c.C (mST DW DS)) [] E (tCons (tVar 3) (tCons (tVar 5) tNil))) m1 hT hWW eS fun E => exx_callF (m := mST DW DS) (ea_cons v3 (ea_cons v5 ea_nil)) ⟨["a"], ["r"], odd, rfl, wok1, osd.up (by decide), .inr ⟨ons, rfl⟩⟩
    have x3 := fun (e6 e7 : Option En) => ev_lamEx (c := c) (CE := CE) (D := DW) (S := lwS pd la ca p2 p a d9 e2 (some (.x (.d odd))) e6 e7) (t := fun E => tCall (spF c.K c.C (mRS DW DT)) [] E (tCons (tC .non) (tCons (tVar 5) tNil))) m1 hT hWW eW fun E => exx_callF (m := mRS DW DT) (ea_cons ev_non (ea_cons v5 ea_nil)) (.inr ⟨odd, rfl, rfl⟩)
    refine run_seq (S1 := lwS pd la ca p2 p a d9 e2 (some (.x (.d odd))) (some (.own [excD DT])) none) (run_own (i := 6) (eo_lst (ds := [excD DT]) (ea_cons (x1 none none) ea_nil) (show 1 ≤ 1000 by decide)) (show 6 < 8 by decide)) ?_
    refine run_seq (S1 := lwS pd la ca p2 p a d9 e2 (some (.x (.d odd))) (some (.own [excD DT, excD DS])) none) (run_drop (ev_app (ds := [excD DT]) (ds1 := [excD DT]) n6 rfl (x2 _ none) rfl (show 1 < 100000 by decide))) ?_
    refine run_seq (S1 := lwS pd la ca p2 p a d9 e2 (some (.x (.d odd))) (some (.own [excD DT, excD DS, excD DW])) none) (run_drop (ev_app (ds := [excD DT, excD DS]) (ds1 := [excD DT, excD DS]) n6 rfl (x3 _ none) rfl (show 2 < 100000 by decide))) ?_
    have self : ∀ X : Addr, PySem.W.kitOne c.K (.ref X) (.ref X) = some true := fun X => by
      unfold PySem.W.kitOne
      rw [if_pos (by simp)]
    refine run_seq (S1 := lwS pd la ca p2 p a d9 e2 (some (.x (.d odd))) (some (.own [excD DT, excD DS, excD DW])) (some (.x (.d (.list [.bool true, .bool true, .bool true]))))) (run_set (i := 7) (ev_lst (ds := [.bool true, .bool true, .bool true]) (ea_cons (ev_isX (ev_ixO 0 n6 rfl rfl) XCT (self DT)) (ea_cons (ev_isX (ev_ixO 1 n6 rfl rfl) XCS (self DS)) (ea_cons (ev_isX (ev_ixO 2 n6 rfl rfl) XCW (self DW)) ea_nil))) (by decide))) ?_
    have v4' : ∀ {e6 e7 : Option En}, EvS c (lwS pd la ca p2 p a d9 e2 (some (.x (.d odd))) e6 e7) (tVar 4) (.d (.str longT)) (lwS pd la ca p2 p a d9 e2 (some (.x (.d odd))) e6 e7) := v4
    have v7 : ∀ {e6 : Option En}, EvS c (lwS pd la ca p2 p a d9 e2 (some (.x (.d odd))) e6 (some (.x (.d (.list [.bool true, .bool true, .bool true]))))) (tVar 7) (.d (.list [.bool true, .bool true, .bool true])) (lwS pd la ca p2 p a d9 e2 (some (.x (.d odd))) e6 (some (.x (.d (.list [.bool true, .bool true, .bool true]))))) := ev_var n7 rfl
    obtain ⟨sh, hsh⟩ : ∃ sh, sh = ls 59 := ⟨_, rfl⟩
    have shw : sh.wf ["a"] ["r"] := by rw [hsh]; exact ls_wf 59
    have shz : sh.size = 60 := by rw [hsh]; exact ls_size 59
    have sht : longT = sh.txt := by rw [hsh]; exact longT_ls
    have shd := sh.depth_le
    have shs : Sd 63 sh.dat := (sd_dat wok1 sh shw).up (by omega)
    have e8 : EvS c (lwS pd la ca p2 p a d9 e2 (some (.x (.d odd))) (some (.own [excD DT, excD DS, excD DW])) (some (.x (.d (.list [.bool true, .bool true, .bool true]))))) (tOp (rEqD c.K) (tVar 7) (tOp rRep (tLst (tCons (tC (.bl true)) tNil)) (tC (.int 3)))) (.d (.bool true)) (lwS pd la ca p2 p a d9 e2 (some (.x (.d odd))) (some (.own [excD DT, excD DS, excD DW])) (some (.x (.d (.list [.bool true, .bool true, .bool true]))))) :=
      ev_is (ev_op v7 (ev_op (ev_lst (ds := [.bool true]) (ea_cons ev_bl ea_nil) (by decide)) (ev_int (i := ((3 : Nat) : Int))) (rv_rep (k := 3) (by decide))) (rv_eq (by decide +kernel) (by decide +kernel))) (congrArg (fun b : Bool => Dx.d (.bool b)) (by decide +kernel))
    have e9 := ev_callF (m := mRS DW DT) (E := E) (c := c) (z := .d sh.dat) (ea_cons (v3 (e6 := some (.own [excD DT, excD DS, excD DW])) (e7 := some (.x (.d (.list [.bool true, .bool true, .bool true]))))) (ea_cons v4' ea_nil)) (.inl ⟨["a"], ["r"], .str longT, some sh, rfl, wok1, fun s e => by
      cases e
      rw [longT_len]
      exact Nat.le_trans (by decide : 534 ≤ 100000) big, rfl, ⟨by rw [sht], shw, by omega⟩, rfl⟩)
    have e10 := ev_callF (m := mST DW DS) (E := E) (c := c) (z := .d (.str sh.txt)) (ea_cons v3 (ea_cons e9 ea_nil)) ⟨["a"], ["r"], sh.dat, rfl, wok1, shs, .inl ⟨sh, rfl, shw, by omega, rfl⟩⟩
    exact run_rtW (run_ret (ev_and1 e8 (ev_is (ev_op e10 v4' rv_eqS) (by rw [decide_eq_true sht.symm])))) fun _ _ => trivial
end
end K2

/-! TkHead -/
set_option Elab.async false
set_option linter.all false
set_option autoImplicit false
set_option maxRecDepth 100000
set_option maxHeartbeats 4000000
namespace Tk
open PySem PySem.Spec PyProof.Rows L2 He
/-! ### the head's facts: a property's getter, too -/
/-- the property m of the class C, its getter -/
def prA (K : PySem.W.Frag) (C m : Str) : Addr := match PySem.W.findIn K (.ref (ga K C)) m with
  | some (some (.ref p)) => p
  | _ => 0
def geA (K : PySem.W.Frag) (C m : Str) : Addr := match PySem.W.recIn K (prA K C m) "property" with
  | some (.ref g :: _) => g
  | _ => 0
structure GetD where
  C : Str
  f : Str
  qual : Str
  st : Stmt
def fnP (K : PySem.W.Frag) (g : Addr) : FnW := match K.lookup g with
  | some ⟨_, _, .func fd, _⟩ => some (fd.name, fd.qualname, fd.params, fd.body, fd.scope, fd.globals, fd.closure, fd.builtins)
  | _ => none
def GetD.val (d : GetD) : FnW := some (d.f, d.qual, defArgs d.st, .stmts (defBody d.st), defScope d.st, mainGlobals, [], builtinsNs)
def nonB : Value → Bool
  | .none => true
  | _ => false
theorem nonB_ok {v : Value} (h : nonB v = true) : v = .none := by
  cases v <;> first | rfl | cases h
def recB (K : PySem.W.Frag) (p g : Addr) : Bool := match PySem.W.recIn K p "property" with
  | some (.ref b :: _) => decide (b = g)
  | _ => false
theorem recB_ok {K : PySem.W.Frag} {p g : Addr} (h : recB K p g = true) : ∃ rest, PySem.W.recIn K p "property" = some (.ref g :: rest) := by
  unfold recB at h
  cases q : PySem.W.recIn K p "property" with
  | none =>
    rw [q] at h
    cases h
  | some l =>
    rw [q] at h
    cases l with
    | nil => cases h
    | cons v r =>
      cases v with
      | ref b =>
        have e : b = g := of_decide_eq_true h
        exact ⟨r, by rw [e]⟩
      | _ => cases h
def eqOb (a b : Option Bool) : Bool := decide (a = b)
def GetD.ok (K : PySem.W.Frag) (d : GetD) : Bool := eqO (PySem.W.findIn K (.ref (ga K d.C)) d.f) (some (some (.ref (prA K d.C d.f)))) && (eqO (PySem.W.specialIn K (.ref (prA K d.C d.f)) "__get__") (some (some (.builtin "property.__get__"))) && (eqOb (PySem.W.takesIn K (.ref (prA K d.C d.f))) (some true) && (recB K (prA K d.C d.f) (geA K d.C d.f) &&
  (PySem.W.keepIn K (.ref (geA K d.C d.f)) && (match K.lookup (geA K d.C d.f) with
    | some ⟨_, _, .func fd, _⟩ => PySem.W.codeIn K fd.code d.qual && nonB fd.defaults
    | _ => false)))))
theorem GetD.fun_ {K : PySem.W.Frag} {d : GetD} (e : fnP K (geA K d.C d.f) = d.val) (c : d.ok K = true) : PropOf K (ga K d.C) d.f (prA K d.C d.f) (geA K d.C d.f) ∧ ∃ fd, Fun K d.f d.qual d.st (geA K d.C d.f) fd := by
  obtain ⟨c1, c⟩ := ba c
  obtain ⟨c2, c⟩ := ba c
  obtain ⟨c3, c⟩ := ba c
  obtain ⟨c4, c⟩ := ba c
  obtain ⟨kp, c2'⟩ := ba c
  refine ⟨⟨eqO_ok c1, eqO_ok c2, of_decide_eq_true c3, recB_ok c4⟩, ?_⟩
  unfold fnP at e
  cases q : K.lookup (geA K d.C d.f) with
  | none =>
    rw [q] at c2'
    cases c2'
  | some o =>
    obtain ⟨oc, od, dt, osl⟩ := o
    rw [q] at c2' e
    cases dt with
    | func fd =>
      obtain ⟨n1, n2, n3, n4, n5, n6, n7, n8, n9, n10, n11, n12, n13, n14, n15⟩ := fd
      have e2 : (some (n1, n2, n3, n4, n5, n6, n7, n15) : FnW) = some (d.f, d.qual, defArgs d.st, .stmts (defBody d.st), defScope d.st, mainGlobals, [], builtinsNs) := e
      simp only [Option.some.injEq, Prod.mk.injEq] at e2
      obtain ⟨h1, h2, h3, h4, h5, h6, h7, h8⟩ := e2
      subst h1 h2 h3 h4 h5 h6 h7 h8
      obtain ⟨k1, k2⟩ := ba (show (PySem.W.codeIn K n13 d.qual && nonB n8) = true from c2')
      have k3 := nonB_ok k2
      subst k3
      exact ⟨_, ⟨oc, od, n9, n10, n11, n12, n13, n14, osl, rfl, q, k1⟩, kp⟩
    | _ => cases c2'
/-! ### the Hook -/
abbrev AlP : Type := AlX × List FnW
def obsP (n : Nat) (fa : List Fa) (fn : List DefD) (ts : List Tab) (tf : List Defn) (ex : PySem.W.Frag → Bool) (gs : List GetD) (g : Addr → Option Obj) : AlP := (obsX n fa fn ts tf ex g, gs.map fun d => fnP (frT g (asD g n)) (geA (frT g (asD g n)) d.C d.f))
def valP (fn : List DefD) (ts : List Tab) (gs : List GetD) (w : World) : AlP := (valX fn ts w, gs.map GetD.val)
structure SaysP (fa : List Fa) (fn : List DefD) (ts : List Tab) (tf : List Defn) (ex : PySem.W.Frag → Bool) (gs : List GetD) (w : World) (h : Heap) (K : PySem.W.Frag) : Prop where
  x : SaysX fa fn ts tf ex w h K
  g : (gs.map fun d => fnP K (geA K d.C d.f)) = gs.map GetD.val
def hookP (n : Nat) (fa : List Fa) (fn : List DefD) (ts : List Tab) (tf : List Defn) (ex : PySem.W.Frag → Bool) (gs : List GetD) : PySem.W.Hook where
  α := AlP
  obs := fun s => obsP n fa fn ts tf ex gs s.heap.get?
  val := fun w => valP fn ts gs w
  says := fun w h => ∃ K : PySem.W.Frag, K.In h ∧ SaysP fa fn ts tf ex gs w h K
  of := fun _ _ e => ⟨_, frT_in, saysX_of (congrArg (fun z : AlP => z.1) e), congrArg (fun z : AlP => z.2) e⟩
  keeps := fun _ _ _ ⟨K, hK, c, cg⟩ k => ⟨K, PySem.W.Frag.In.keeps hK k, ⟨c.t, c.more, c.hd, c.out, fun p hp => k _ _ (c.empty p hp)⟩, cg⟩
theorem obsP_eq {n : Nat} {fa : List Fa} {fn : List DefD} {ts : List Tab} {tf : List Defn} {ex : PySem.W.Frag → Bool} {gs : List GetD} {g : Addr → Option Obj} {s : Shared} (h : ∀ a, g a = s.heap.get? a) : obsP n fa fn ts tf ex gs g = (hookP n fa fn ts tf ex gs).obs s := by
  have e : g = s.heap.get? := funext h
  rw [e] <;> rfl
section
variable {fa : List Fa} {fn : List DefD} {ts : List Tab} {tf : List Defn} {ex : PySem.W.Frag → Bool} {gs : List GetD} {w : World} {h : Heap} {K : PySem.W.Frag}
theorem SaysP.get (c : SaysP fa fn ts tf ex gs w h K) (i : Nat) {d : GetD} (e : gs[i]? = some d) (k : d.ok K = true) : PropOf K (ga K d.C) d.f (prA K d.C d.f) (geA K d.C d.f) ∧ ∃ fd, Fun K d.f d.qual d.st (geA K d.C d.f) fd := by
  have e2 : (gs.map fun d => fnP K (geA K d.C d.f))[i]? = (gs.map GetD.val)[i]? := by rw [c.g]
  rw [List.getElem?_map, List.getElem?_map, e] at e2
  exact d.fun_ (Option.some.inj e2) k
theorem SaysP.d (c : SaysP fa fn ts tf ex gs w h K) : SaysD fa fn K := c.x.t.d
end
/-! ### defs without defaults -/
/-- a def of the text: at the module's name x, at a class's method -/
def mkD (p : Str × Option Str) (name qual : Str) (st : Stmt) : DefD := ⟨p, name, qual, defArgs st, defBody st, defScope st, [], []⟩
theorem fun_of {K : PySem.W.Frag} {p : Str × Option Str} {name qual : Str} {st : Stmt} {fd : FuncData} (F : FunD K name qual (defArgs st) (defBody st) (defScope st) [] [] (fAd K p) fd) : Fun K name qual st (fAd K p) fd := by
  obtain ⟨oc, od, dV, kV, doc, pm, an, cdv, ct, osl, e, lk, hcd, hD, _⟩ := F.ex
  rcases hD with ⟨_, rfl⟩ | ⟨z, _⟩
  · exact ⟨⟨oc, od, kV, doc, pm, an, cdv, ct, osl, e, lk, hcd⟩, F.kp⟩
  · exact absurd rfl z
theorem mkD_fun {fa : List Fa} {fn : List DefD} {K : PySem.W.Frag} (c : SaysD fa fn K) (i : Nat) {p : Str × Option Str} {name qual : Str} {st : Stmt} (h : fn[i]? = some (mkD p name qual st)) : ∃ fd, Fun K name qual st (fAd K p) fd := by
  obtain ⟨fd, F⟩ := c.def_ i h
  exact ⟨fd, fun_of F⟩
/-- .. at a module's name, with its binding -/
theorem mkD_df {fa : List Fa} {fn : List DefD} {K : PySem.W.Frag} {H : Heap} {mg : Str → Option Value} (X : K.In H) (G : H.Ns mainGlobals mg) (c : SaysD fa fn K) (i j : Nat) {x : Str} {st : Stmt} {ps : List Str} (h : fn[i]? = some (mkD (x, none) x x st)) (hj : fa[j]? = some (.glo x))
    (hb : ∀ (kV doc pm : Value) (an : Option Addr) (cdv ct : Value) (us : List Value), us.length = ps.length → bindArgs (PySem.W.fnOf x x (defArgs st) (defBody st) (defScope st) .none kV doc pm an cdv ct) ⟨us, []⟩ = pure (ps.zip us)) : ∃ f fd, Df K mg x st ps f fd := by
  obtain ⟨fd, F⟩ := mkD_fun c i h
  exact ⟨ga K x, fd, F, glo_ok X G (c.fact j hj), F.binds hb⟩
/-! ### own exceptions, what a head tells of them -/
theorem xt_of {fa : List Fa} {fn : List DefD} {K : PySem.W.Frag} {H : Heap} {mg : Str → Option Value} (X : K.In H) (G : H.Ns mainGlobals mg) (c : SaysD fa fn K) (i j : Nat) {x : Str} (hi : fa[i]? = some (.glo x)) (hj : fa[j]? = some (.exc x)) : XT K mg x (ga K x) := by
  obtain ⟨a1, a2, a3, a4⟩ := exc_ok (c.fact j hj)
  exact ⟨glo_ok X G (c.fact i hi), a1, a2, a3, a4⟩
def excB (K : PySem.W.Frag) (x : Str) : Bool := eqO (PySem.W.findIn K (.ref (ga K x)) "__getattribute__") (some (some (.builtin "BaseException.__getattribute__"))) && (eqO (PySem.W.findIn K (.ref (ga K x)) "__getattr__") (some none) && (eqOb (PySem.W.subIn K (.ref (ga K x)) (.type "BaseException")) (some true) && (PySem.W.hasDictIn K (ga K x) &&
  (eqO (PySem.W.findIn K (.ref (ga K x)) "__class__") (some (some (.builtin "object.__class__"))) && (eqO (PySem.W.specialIn K (.builtin "object.__class__") "__get__") (some (some (.builtin "getset_descriptor.__get__"))) && (eqOb (PySem.W.takesIn K (.builtin "object.__class__")) (some true) && eqOb (PySem.W.mroIn K (ga K x) (.type "object")) (some true)))))))
theorem excB_ok {K : PySem.W.Frag} {x : Str} (h : excB K x = true) : ExcC K (ga K x) := by
  obtain ⟨h1, h⟩ := ba h
  obtain ⟨h2, h⟩ := ba h
  obtain ⟨h3, h⟩ := ba h
  obtain ⟨h4, h⟩ := ba h
  obtain ⟨h5, h⟩ := ba h
  obtain ⟨h6, h⟩ := ba h
  obtain ⟨h7, h8⟩ := ba h
  exact ⟨eqO_ok h1, eqO_ok h2, of_decide_eq_true h3, h4, eqO_ok h5, eqO_ok h6, of_decide_eq_true h7, of_decide_eq_true h8⟩
/-- a class whose instances isinstance knows -/
def wisB (K : PySem.W.Frag) (x : Str) : Bool := eqO (PySem.W.findIn K (.ref (ga K x)) "__class__") (some (some (.builtin "object.__class__"))) && (eqO (PySem.W.specialIn K (.builtin "object.__class__") "__get__") (some (some (.builtin "getset_descriptor.__get__"))) && (eqOb (PySem.W.takesIn K (.builtin "object.__class__")) (some true) && (eqOb (PySem.W.mroIn K (ga K x) (.type "object")) (some true) && eqOb (PySem.W.kitOne K (.type "NoneType") (.ref (ga K x))) (some false))))
/-! ### a dict of the top: keys that are not in it -/
theorem find_none {P : Params} {z : Str} : ∀ {l : List DictEntry} {ks : List Str}, l.map He.keyOf = keysIn P ks → z ∉ ks → l.find? (·.key.isStr z) = none ∧ l.any (·.refKey) = false
  | [], _, _, _ => ⟨rfl, rfl⟩
  | e :: r, [], h, _ => by cases h
  | e :: r, k :: ks, h, hz => by
    have h1 : He.keyOf e :: r.map He.keyOf = some (k, PyData.keyHash P k) :: keysIn P ks := h
    injection h1 with h2 h3
    rw [List.mem_cons, not_or] at hz
    obtain ⟨i1, i2⟩ := find_none h3 hz.2
    unfold He.keyOf at h2
    split at h2
    · rename_i x t q
      have h4 := Option.some.inj h2
      obtain ⟨h5, h6⟩ := Prod.mk.inj h4
      subst h5
      have e1 : e.key.isStr z = false := by
        rw [q]
        show (x == z) = false
        exact beq_eq_false_iff_ne.mpr (fun y => hz.1 y.symm)
      have e2 : e.refKey = false := by
        unfold DictEntry.refKey
        rw [q]
      rw [List.find?_cons, e1, List.any_cons, e2]
      exact ⟨i1, i2⟩
    · cases h2
theorem tab_no {fa : List Fa} {fn : List DefD} {ts : List Tab} {w : World} {K : PySem.W.Frag} (c : SaysT fa fn ts w K) (i : Nat) {t : Tab} (h : ts[i]? = some t) {z : Str} (hz : z ∉ t.2) : PySem.W.nsIn K (t.1 K) z = some none := by
  have e : ts.map (fun t => dicW K (t.1 K)) = ts.map fun t => some (keysIn w.params t.2) := congrArg (fun z : AlT => z.2) c
  have e2 : (ts.map fun t => dicW K (t.1 K))[i]? = (ts.map fun t => some (keysIn w.params t.2))[i]? := by rw [e]
  rw [List.getElem?_map, List.getElem?_map, h] at e2
  have e3 : dicW K (t.1 K) = some (keysIn w.params t.2) := Option.some.inj e2
  unfold dicW at e3
  unfold PySem.W.nsIn
  split at e3
  · rename_i cc es nn sl q
    rw [q]
    split at e3
    · obtain ⟨f1, f2⟩ := find_none (Option.some.inj e3) hz
      dsimp only
      rw [f1]
      dsimp only
      rw [f2]
      rfl
    · cases e3
  · cases e3
end Tk

/-! K3i -/
set_option Elab.async false
set_option linter.all false
set_option autoImplicit false
set_option maxRecDepth 100000
set_option maxHeartbeats 0
namespace K2
open PySem PySem.Spec PyProof.Rows L2 Tk He
/-! ### the head: facts by names, the run -/
def nm0 : List Str := ["KindError", "BadKinds", "BadShape", "BadText", "BadTies", "BadWords", "LETTERS", "is_list", "is_plain_word", "MOST_KINDS", "MOST_TIES", "KEPT", "are_new_words", "Words", "need_words", "ANY", "NONE", "FORMS", "MOST_SIZE", "inner_of", "has_form", "is_shape_of", "need_shape", "SIGNS", "text_by", "word_at", "read_at", "read_inner", "shape_in", "shape_text"]
def nm1 : List Str := ["read_shape", "_law_begun", "_law_mixed", "_law_take", "_law_pick", "_law_shuffled", "_law_caught", "_law_kinds", "_law_says", "_law_told", "_law_shape", "_law_inner", "_law_words_of", "_law_text", "_law_split", "_law_read", "_law_near_text", "_law_right"]
def names : List Str := nm0 ++ nm1
def fn0 : List DefD := [mkD ("is_list", none) "is_list" "is_list" (topS 9),
  mkD ("is_plain_word", none) "is_plain_word" "is_plain_word" (topS 10),
  mkD ("are_new_words", none) "are_new_words" "are_new_words" (topS 15),
  mkD ("need_words", none) "need_words" "need_words" (topS 17),
  mkD ("inner_of", none) "inner_of" "inner_of" (topS 23),
  mkD ("has_form", none) "has_form" "has_form" (topS 24),
  mkD ("is_shape_of", none) "is_shape_of" "is_shape_of" (topS 25),
  mkD ("need_shape", none) "need_shape" "need_shape" (topS 26),
  mkD ("text_by", none) "text_by" "text_by" (topS 29),
  mkD ("word_at", none) "word_at" "word_at" (topS 30),
  mkD ("read_at", none) "read_at" "read_at" (topS 31),
  mkD ("read_inner", none) "read_inner" "read_inner" (topS 32),
  mkD ("shape_in", none) "shape_in" "shape_in" (topS 33),
  mkD ("shape_text", none) "shape_text" "shape_text" (topS 34),
  mkD ("read_shape", none) "read_shape" "read_shape" (topS 35),
  mkD ("_law_begun", none) "_law_begun" "_law_begun" (topS 37),
  mkD ("_law_mixed", none) "_law_mixed" "_law_mixed" (topS 38),
  mkD ("_law_take", none) "_law_take" "_law_take" (topS 39),
  mkD ("_law_pick", none) "_law_pick" "_law_pick" (topS 40),
  mkD ("_law_shuffled", none) "_law_shuffled" "_law_shuffled" (topS 41)]
def fn1 : List DefD := [mkD ("_law_caught", none) "_law_caught" "_law_caught" (topS 42),
  mkD ("_law_kinds", none) "_law_kinds" "_law_kinds" (topS 43),
  mkD ("_law_says", none) "_law_says" "_law_says" (topS 44),
  mkD ("_law_told", none) "_law_told" "_law_told" (topS 45),
  mkD ("_law_shape", none) "_law_shape" "_law_shape" (topS 46),
  mkD ("_law_inner", none) "_law_inner" "_law_inner" (topS 47),
  mkD ("_law_words_of", none) "_law_words_of" "_law_words_of" (topS 48),
  mkD ("_law_text", none) "_law_text" "_law_text" (topS 49),
  mkD ("_law_split", none) "_law_split" "_law_split" (topS 50),
  mkD ("_law_read", none) "_law_read" "_law_read" (topS 51),
  mkD ("_law_near_text", none) "_law_near_text" "_law_near_text" (topS 52),
  mkD ("_law_right", none) "_law_right" "_law_right" (topS 53),
  mkD ("law", none) "law" "law" (topS 54),
  mkD ("Words", some "__init__") "__init__" "Words.__init__" (clsS (topS 16) 0)]
def fn : List DefD := fn0 ++ fn1
def fa0 : List Fa := [.glo "is_list", .glo "is_plain_word", .glo "are_new_words", .glo "need_words", .glo "inner_of", .glo "has_form", .glo "is_shape_of", .glo "need_shape", .glo "text_by", .glo "word_at", .glo "read_at", .glo "read_inner", .glo "shape_in", .glo "shape_text", .glo "read_shape", .glo "_law_begun", .glo "_law_mixed", .glo "_law_take", .glo "_law_pick", .glo "_law_shuffled", .glo "_law_caught", .glo "_law_kinds", .glo "_law_says", .glo "_law_told", .glo "_law_shape", .glo "_law_inner", .glo "_law_words_of", .glo "_law_text", .glo "_law_split", .glo "_law_read"]
def fa1 : List Fa := [.glo "_law_near_text", .glo "_law_right", .glo "law", .glo "KindError", .glo "BadKinds", .glo "BadShape", .glo "BadText", .glo "BadTies", .glo "BadWords", .glo "Words", .glo "FORMS", .glo "ANY", .glo "NONE", .glo "KEPT", .free "isinstance", .free "len", .free "all", .free "any", .free "tuple", .free "list", .free "str", .free "dict", .free "bool", .free "int", .free "set", .free "abs", .free "min", .free "range", .free "enumerate", .int "MOST_SIZE" 60]
def fa2 : List Fa := [.int "MOST_KINDS" 6, .int "MOST_TIES" 3, .str "SIGNS" "(), ", .str "LETTERS" "abcdefghijklmnopqrstuvwxyz", .cls "Words", .noat "Words" "w_kinds", .noat "Words" "w_ties", .mkr "Words", .exc "BadKinds", .exc "BadShape", .exc "BadText", .exc "BadTies", .exc "BadWords", .exm "BadText" "KindError" true, .exm "BadShape" "KindError" true, .exm "BadWords" "KindError" true]
def fa : List Fa := fa0 ++ fa1 ++ fa2
def gs : List GetD := [⟨"Words", "kinds", "Words.kinds", clsS (topS 16) 1⟩, ⟨"Words", "ties", "Words.ties", clsS (topS 16) 2⟩]
def forms : List (Str × Dv) := [("any", .int 1), ("none", .int 1), ("kind", .int 2), ("both", .int 3), ("tied", .int 3)]
def ts : List Tab := [(fun K => ga K "FORMS", ["any", "none", "kind", "both", "tied"])]
def tf : List Defn := [("_law_right", none), ("law", none)]
def ex (K : PySem.W.Frag) : Bool := tupB K "ANY" [.str "any"] && (tupB K "NONE" [.str "none"] && (tupB K "KEPT" [.str "any", .str "none", .str "both", .str "tied"] && (wisB K "Words" && (excB K "BadText" && (excB K "BadShape" && (excB K "BadWords" && (valsB K (ga K "FORMS") forms && (gs.all (fun d => d.ok K) && !decide ((cT K ("law", none)).2 = (cT K ("_law_right", none)).2)))))))))
abbrev R : PySem.W.OpenRow := PySem.W.OpenLaw.row PySem.Challenge.rw_toldofkinds_k02_whole_texts_of_shapes
abbrev hk : PySem.W.Hook := hookP 5 fa fn ts tf ex gs
def ob (s : PySem.W.SharedT) : AlP := obsP 5 fa fn ts tf ex gs (HandSHeadRun.getT s)
theorem ob_eq (s : PySem.W.SharedT) : ob s = hk.obs s.abs := obsP_eq (HandSHeadRun.getT_eq s)
theorem run (w : World) : HandSHeadRun.RunEq R (PySem.W.view R.prog [54]) hk ob 5000 names w := by
  refine PySem.W.byRow2 "special-get-raises" (P := fun w => HandSHeadRun.RunEq R (PySem.W.view R.prog [54]) hk ob 5000 names w) (fun w os => ?_) (fun w os => ?_) w
  · kernel_rfl
  · kernel_rfl
end K2

/-! K3j -/
set_option Elab.async false
set_option linter.all false
set_option autoImplicit false
set_option maxRecDepth 100000
set_option maxHeartbeats 4000000
namespace K2
open PySem PySem.Spec PyProof.Rows L2 Tk He
section
variable {w : World} {h : Heap} {K : PySem.W.Frag} {mg : Str → Option Value}
theorem fact_ {c : SaysD fa fn K} (f : Fa) (i : Nat) (e : fa[i]? = some f) : f.ok K = true := c.fact i e
theorem df_is_list (X : K.In h) (G : h.Ns mainGlobals mg) (c : SaysD fa fn K) : ∃ f fd, Df K mg "is_list" (topS 9) ["thing"] f fd := mkD_df X G c 0 0 (x := "is_list") (st := topS 9) (ps := ["thing"]) rfl rfl (fun _ _ _ _ _ _ us hl => match us, hl with | [_], _ => rfl)
theorem df_is_plain_word (X : K.In h) (G : h.Ns mainGlobals mg) (c : SaysD fa fn K) : ∃ f fd, Df K mg "is_plain_word" (topS 10) ["thing"] f fd := mkD_df X G c 1 1 (x := "is_plain_word") (st := topS 10) (ps := ["thing"]) rfl rfl (fun _ _ _ _ _ _ us hl => match us, hl with | [_], _ => rfl)
theorem df_are_new_words (X : K.In h) (G : h.Ns mainGlobals mg) (c : SaysD fa fn K) : ∃ f fd, Df K mg "are_new_words" (topS 15) ["thing", "most", "others"] f fd := mkD_df X G c 2 2 (x := "are_new_words") (st := topS 15) (ps := ["thing", "most", "others"]) rfl rfl (fun _ _ _ _ _ _ us hl => match us, hl with | [_, _, _], _ => rfl)
theorem df_need_words (X : K.In h) (G : h.Ns mainGlobals mg) (c : SaysD fa fn K) : ∃ f fd, Df K mg "need_words" (topS 17) ["words"] f fd := mkD_df X G c 3 3 (x := "need_words") (st := topS 17) (ps := ["words"]) rfl rfl (fun _ _ _ _ _ _ us hl => match us, hl with | [_], _ => rfl)
theorem df_inner_of (X : K.In h) (G : h.Ns mainGlobals mg) (c : SaysD fa fn K) : ∃ f fd, Df K mg "inner_of" (topS 23) ["shape"] f fd := mkD_df X G c 4 4 (x := "inner_of") (st := topS 23) (ps := ["shape"]) rfl rfl (fun _ _ _ _ _ _ us hl => match us, hl with | [_], _ => rfl)
theorem df_has_form (X : K.In h) (G : h.Ns mainGlobals mg) (c : SaysD fa fn K) : ∃ f fd, Df K mg "has_form" (topS 24) ["words", "thing"] f fd := mkD_df X G c 5 5 (x := "has_form") (st := topS 24) (ps := ["words", "thing"]) rfl rfl (fun _ _ _ _ _ _ us hl => match us, hl with | [_, _], _ => rfl)
theorem df_is_shape_of (X : K.In h) (G : h.Ns mainGlobals mg) (c : SaysD fa fn K) : ∃ f fd, Df K mg "is_shape_of" (topS 25) ["words", "thing"] f fd := mkD_df X G c 6 6 (x := "is_shape_of") (st := topS 25) (ps := ["words", "thing"]) rfl rfl (fun _ _ _ _ _ _ us hl => match us, hl with | [_, _], _ => rfl)
theorem df_need_shape (X : K.In h) (G : h.Ns mainGlobals mg) (c : SaysD fa fn K) : ∃ f fd, Df K mg "need_shape" (topS 26) ["words", "shape"] f fd := mkD_df X G c 7 7 (x := "need_shape") (st := topS 26) (ps := ["words", "shape"]) rfl rfl (fun _ _ _ _ _ _ us hl => match us, hl with | [_, _], _ => rfl)
theorem df_text_by (X : K.In h) (G : h.Ns mainGlobals mg) (c : SaysD fa fn K) : ∃ f fd, Df K mg "text_by" (topS 29) ["shape"] f fd := mkD_df X G c 8 8 (x := "text_by") (st := topS 29) (ps := ["shape"]) rfl rfl (fun _ _ _ _ _ _ us hl => match us, hl with | [_], _ => rfl)
theorem df_word_at (X : K.In h) (G : h.Ns mainGlobals mg) (c : SaysD fa fn K) : ∃ f fd, Df K mg "word_at" (topS 30) ["text", "at"] f fd := mkD_df X G c 9 9 (x := "word_at") (st := topS 30) (ps := ["text", "at"]) rfl rfl (fun _ _ _ _ _ _ us hl => match us, hl with | [_, _], _ => rfl)
theorem df_read_at (X : K.In h) (G : h.Ns mainGlobals mg) (c : SaysD fa fn K) : ∃ f fd, Df K mg "read_at" (topS 31) ["words", "text", "at", "level"] f fd := mkD_df X G c 10 10 (x := "read_at") (st := topS 31) (ps := ["words", "text", "at", "level"]) rfl rfl (fun _ _ _ _ _ _ us hl => match us, hl with | [_, _, _, _], _ => rfl)
theorem df_read_inner (X : K.In h) (G : h.Ns mainGlobals mg) (c : SaysD fa fn K) : ∃ f fd, Df K mg "read_inner" (topS 32) ["words", "text", "at", "level", "word"] f fd := mkD_df X G c 11 11 (x := "read_inner") (st := topS 32) (ps := ["words", "text", "at", "level", "word"]) rfl rfl (fun _ _ _ _ _ _ us hl => match us, hl with | [_, _, _, _, _], _ => rfl)
theorem df_shape_in (X : K.In h) (G : h.Ns mainGlobals mg) (c : SaysD fa fn K) : ∃ f fd, Df K mg "shape_in" (topS 33) ["words", "text"] f fd := mkD_df X G c 12 12 (x := "shape_in") (st := topS 33) (ps := ["words", "text"]) rfl rfl (fun _ _ _ _ _ _ us hl => match us, hl with | [_, _], _ => rfl)
theorem df_shape_text (X : K.In h) (G : h.Ns mainGlobals mg) (c : SaysD fa fn K) : ∃ f fd, Df K mg "shape_text" (topS 34) ["words", "shape"] f fd := mkD_df X G c 13 13 (x := "shape_text") (st := topS 34) (ps := ["words", "shape"]) rfl rfl (fun _ _ _ _ _ _ us hl => match us, hl with | [_, _], _ => rfl)
theorem df_read_shape (X : K.In h) (G : h.Ns mainGlobals mg) (c : SaysD fa fn K) : ∃ f fd, Df K mg "read_shape" (topS 35) ["words", "text"] f fd := mkD_df X G c 14 14 (x := "read_shape") (st := topS 35) (ps := ["words", "text"]) rfl rfl (fun _ _ _ _ _ _ us hl => match us, hl with | [_, _], _ => rfl)
theorem df__law_begun (X : K.In h) (G : h.Ns mainGlobals mg) (c : SaysD fa fn K) : ∃ f fd, Df K mg "_law_begun" (topS 37) ["script"] f fd := mkD_df X G c 15 15 (x := "_law_begun") (st := topS 37) (ps := ["script"]) rfl rfl (fun _ _ _ _ _ _ us hl => match us, hl with | [_], _ => rfl)
theorem df__law_mixed (X : K.In h) (G : h.Ns mainGlobals mg) (c : SaysD fa fn K) : ∃ f fd, Df K mg "_law_mixed" (topS 38) ["draw"] f fd := mkD_df X G c 16 16 (x := "_law_mixed") (st := topS 38) (ps := ["draw"]) rfl rfl (fun _ _ _ _ _ _ us hl => match us, hl with | [_], _ => rfl)
theorem df__law_take (X : K.In h) (G : h.Ns mainGlobals mg) (c : SaysD fa fn K) : ∃ f fd, Df K mg "_law_take" (topS 39) ["draw", "amount"] f fd := mkD_df X G c 17 17 (x := "_law_take") (st := topS 39) (ps := ["draw", "amount"]) rfl rfl (fun _ _ _ _ _ _ us hl => match us, hl with | [_, _], _ => rfl)
theorem df__law_pick (X : K.In h) (G : h.Ns mainGlobals mg) (c : SaysD fa fn K) : ∃ f fd, Df K mg "_law_pick" (topS 40) ["draw", "some"] f fd := mkD_df X G c 18 18 (x := "_law_pick") (st := topS 40) (ps := ["draw", "some"]) rfl rfl (fun _ _ _ _ _ _ us hl => match us, hl with | [_, _], _ => rfl)
theorem df__law_shuffled (X : K.In h) (G : h.Ns mainGlobals mg) (c : SaysD fa fn K) : ∃ f fd, Df K mg "_law_shuffled" (topS 41) ["draw", "some"] f fd := mkD_df X G c 19 19 (x := "_law_shuffled") (st := topS 41) (ps := ["draw", "some"]) rfl rfl (fun _ _ _ _ _ _ us hl => match us, hl with | [_, _], _ => rfl)
theorem df__law_caught (X : K.In h) (G : h.Ns mainGlobals mg) (c : SaysD fa fn K) : ∃ f fd, Df K mg "_law_caught" (topS 42) ["work"] f fd := mkD_df X G c 20 20 (x := "_law_caught") (st := topS 42) (ps := ["work"]) rfl rfl (fun _ _ _ _ _ _ us hl => match us, hl with | [_], _ => rfl)
theorem df__law_kinds (X : K.In h) (G : h.Ns mainGlobals mg) (c : SaysD fa fn K) : ∃ f fd, Df K mg "_law_kinds" (topS 43) ["thing"] f fd := mkD_df X G c 21 21 (x := "_law_kinds") (st := topS 43) (ps := ["thing"]) rfl rfl (fun _ _ _ _ _ _ us hl => match us, hl with | [_], _ => rfl)
theorem df__law_says (X : K.In h) (G : h.Ns mainGlobals mg) (c : SaysD fa fn K) : ∃ f fd, Df K mg "_law_says" (topS 44) ["told", "due"] f fd := mkD_df X G c 22 22 (x := "_law_says") (st := topS 44) (ps := ["told", "due"]) rfl rfl (fun _ _ _ _ _ _ us hl => match us, hl with | [_, _], _ => rfl)
theorem df__law_told (X : K.In h) (G : h.Ns mainGlobals mg) (c : SaysD fa fn K) : ∃ f fd, Df K mg "_law_told" (topS 45) ["draw", "most"] f fd := mkD_df X G c 23 23 (x := "_law_told") (st := topS 45) (ps := ["draw", "most"]) rfl rfl (fun _ _ _ _ _ _ us hl => match us, hl with | [_, _], _ => rfl)
theorem df__law_shape (X : K.In h) (G : h.Ns mainGlobals mg) (c : SaysD fa fn K) : ∃ f fd, Df K mg "_law_shape" (topS 46) ["draw", "told", "deep"] f fd := mkD_df X G c 24 24 (x := "_law_shape") (st := topS 46) (ps := ["draw", "told", "deep"]) rfl rfl (fun _ _ _ _ _ _ us hl => match us, hl with | [_, _, _], _ => rfl)
theorem df__law_inner (X : K.In h) (G : h.Ns mainGlobals mg) (c : SaysD fa fn K) : ∃ f fd, Df K mg "_law_inner" (topS 47) ["shape"] f fd := mkD_df X G c 25 25 (x := "_law_inner") (st := topS 47) (ps := ["shape"]) rfl rfl (fun _ _ _ _ _ _ us hl => match us, hl with | [_], _ => rfl)
theorem df__law_words_of (X : K.In h) (G : h.Ns mainGlobals mg) (c : SaysD fa fn K) : ∃ f fd, Df K mg "_law_words_of" (topS 48) ["told"] f fd := mkD_df X G c 26 26 (x := "_law_words_of") (st := topS 48) (ps := ["told"]) rfl rfl (fun _ _ _ _ _ _ us hl => match us, hl with | [_], _ => rfl)
theorem df__law_text (X : K.In h) (G : h.Ns mainGlobals mg) (c : SaysD fa fn K) : ∃ f fd, Df K mg "_law_text" (topS 49) ["shape"] f fd := mkD_df X G c 27 27 (x := "_law_text") (st := topS 49) (ps := ["shape"]) rfl rfl (fun _ _ _ _ _ _ us hl => match us, hl with | [_], _ => rfl)
theorem df__law_split (X : K.In h) (G : h.Ns mainGlobals mg) (c : SaysD fa fn K) : ∃ f fd, Df K mg "_law_split" (topS 50) ["text"] f fd := mkD_df X G c 28 28 (x := "_law_split") (st := topS 50) (ps := ["text"]) rfl rfl (fun _ _ _ _ _ _ us hl => match us, hl with | [_], _ => rfl)
theorem df__law_read (X : K.In h) (G : h.Ns mainGlobals mg) (c : SaysD fa fn K) : ∃ f fd, Df K mg "_law_read" (topS 51) ["told", "text"] f fd := mkD_df X G c 29 29 (x := "_law_read") (st := topS 51) (ps := ["told", "text"]) rfl rfl (fun _ _ _ _ _ _ us hl => match us, hl with | [_, _], _ => rfl)
theorem df__law_near_text (X : K.In h) (G : h.Ns mainGlobals mg) (c : SaysD fa fn K) : ∃ f fd, Df K mg "_law_near_text" (topS 52) ["draw", "text"] f fd := mkD_df X G c 30 30 (x := "_law_near_text") (st := topS 52) (ps := ["draw", "text"]) rfl rfl (fun _ _ _ _ _ _ us hl => match us, hl with | [_, _], _ => rfl)
theorem df__law_right (X : K.In h) (G : h.Ns mainGlobals mg) (c : SaysD fa fn K) : ∃ f fd, Df K mg "_law_right" (topS 53) ["draw"] f fd := mkD_df X G c 31 31 (x := "_law_right") (st := topS 53) (ps := ["draw"]) rfl rfl (fun _ _ _ _ _ _ us hl => match us, hl with | [_], _ => rfl)
theorem df_law (X : K.In h) (G : h.Ns mainGlobals mg) (c : SaysD fa fn K) : ∃ f fd, Df K mg "law" (topS 54) ["script"] f fd := mkD_df X G c 32 32 (x := "law") (st := topS 54) (ps := ["script"]) rfl rfl (fun _ _ _ _ _ _ us hl => match us, hl with | [_], _ => rfl)
theorem b_all (X : K.In h) (G : h.Ns mainGlobals mg) (c : SaysD fa fn K) : ∀ x : Str, x ∈ (["isinstance", "len", "all", "any", "tuple", "list", "str", "dict", "bool", "int", "set", "abs", "min", "range", "enumerate"] : List Str) → mg x = none := fun x hx => by
  simp only [List.mem_cons, List.not_mem_nil, or_false] at hx
  rcases hx with rfl | rfl | rfl | rfl | rfl | rfl | rfl | rfl | rfl | rfl | rfl | rfl | rfl | rfl | rfl
  · exact free_ok X G (c.fact 44 (f := .free "isinstance") rfl)
  · exact free_ok X G (c.fact 45 (f := .free "len") rfl)
  · exact free_ok X G (c.fact 46 (f := .free "all") rfl)
  · exact free_ok X G (c.fact 47 (f := .free "any") rfl)
  · exact free_ok X G (c.fact 48 (f := .free "tuple") rfl)
  · exact free_ok X G (c.fact 49 (f := .free "list") rfl)
  · exact free_ok X G (c.fact 50 (f := .free "str") rfl)
  · exact free_ok X G (c.fact 51 (f := .free "dict") rfl)
  · exact free_ok X G (c.fact 52 (f := .free "bool") rfl)
  · exact free_ok X G (c.fact 53 (f := .free "int") rfl)
  · exact free_ok X G (c.fact 54 (f := .free "set") rfl)
  · exact free_ok X G (c.fact 55 (f := .free "abs") rfl)
  · exact free_ok X G (c.fact 56 (f := .free "min") rfl)
  · exact free_ok X G (c.fact 57 (f := .free "range") rfl)
  · exact free_ok X G (c.fact 58 (f := .free "enumerate") rfl)
theorem ft (c : SaysP fa fn ts tf ex gs w h K) : FT K w (ga K "FORMS") := by
  have e := c.x.more
  unfold ex at e
  obtain ⟨_, e⟩ := ba e
  obtain ⟨_, e⟩ := ba e
  obtain ⟨_, e⟩ := ba e
  obtain ⟨_, e⟩ := ba e
  obtain ⟨_, e⟩ := ba e
  obtain ⟨_, e⟩ := ba e
  obtain ⟨_, e⟩ := ba e
  obtain ⟨e, _⟩ := ba e
  refine ⟨c.x.t.tab 0 rfl, fun z i hz => ?_, fun z hz => tab_no c.x.t 0 (t := (fun K => ga K "FORMS", ["any", "none", "kind", "both", "tied"])) rfl ?_⟩
  · have key : (z, Dv.int i) ∈ forms := by
      unfold formOf at hz
      split at hz
      · rename_i h1
        cases hz
        rcases h1 with rfl | rfl
        · exact .head _
        · exact .tail _ (.head _)
      · split at hz
        · rename_i h1
          cases hz
          subst h1
          exact .tail _ (.tail _ (.head _))
        · split at hz
          · rename_i h1
            cases hz
            rcases h1 with rfl | rfl
            · exact .tail _ (.tail _ (.tail _ (.head _)))
            · exact .tail _ (.tail _ (.tail _ (.tail _ (.head _))))
          · cases hz
    exact valsB_ok e key
  · intro hm
    unfold formOf at hz
    simp only [List.mem_cons, List.not_mem_nil, or_false] at hm
    rcases hm with rfl | rfl | rfl | rfl | rfl <;> revert hz <;> decide +kernel
theorem gets (c : SaysP fa fn ts tf ex gs w h K) : ∀ d ∈ gs, d.ok K = true := fun d hd => by
  have e := c.x.more
  unfold ex at e
  obtain ⟨_, e⟩ := ba e
  obtain ⟨_, e⟩ := ba e
  obtain ⟨_, e⟩ := ba e
  obtain ⟨_, e⟩ := ba e
  obtain ⟨_, e⟩ := ba e
  obtain ⟨_, e⟩ := ba e
  obtain ⟨_, e⟩ := ba e
  obtain ⟨_, e⟩ := ba e
  obtain ⟨e, _⟩ := ba e
  exact List.all_eq_true.mp e d hd
theorem getter {P : Program} {base : Heap} {qual f x : Str} {st : Stmt} {g : Addr} {fd : FuncData} (Cl : Cls K (ga K "Words")) (n : NoAttr K (ga K "Words") f) (F : Fun K x qual st g fd) (S : FnScope ["self"] ["self"] (defScope st)) {p1 p2 p3 : Pos} (hb : defBody st = [.Return (some (.Attribute (.Name "self" p1) f p2)) p3]) : FnOk P w K mg base (L2.CX P w) 1 g fd ["self"] (getSp (ga K "Words") f) := by
  obtain ⟨oc, od, kV, doc, pm, an, cdv, ct, osl, rfl, lk, hcd⟩ := F.ex
  exact fn_getter (k := 0) lk hcd S rfl hb Cl n
theorem mt {P : Program} {base : Heap} (X : K.In h) (G : h.Ns mainGlobals mg) (c' : SaysP fa fn ts tf ex gs w h K) : MT P w K mg base (ga K "Words") := by
  have c := c'.d
  have e := c'.x.more
  unfold ex at e
  obtain ⟨eA, e⟩ := ba e
  obtain ⟨eN, e⟩ := ba e
  obtain ⟨_, e⟩ := ba e
  obtain ⟨eW, _⟩ := ba e
  obtain ⟨w1, eW⟩ := ba eW
  obtain ⟨w2, eW⟩ := ba eW
  obtain ⟨w3, eW⟩ := ba eW
  obtain ⟨w4, w5⟩ := ba eW
  have Cl := cls_ok (c.fact 64 (f := .cls "Words") rfl)
  obtain ⟨gk, fk, Fk⟩ := c'.get 0 (d := ⟨"Words", "kinds", "Words.kinds", clsS (topS 16) 1⟩) rfl (gets c' _ (.head _))
  obtain ⟨gt, ft_, Ft⟩ := c'.get 1 (d := ⟨"Words", "ties", "Words.ties", clsS (topS 16) 2⟩) rfl (gets c' _ (.tail _ (.head _)))
  refine ⟨⟨Cl, glo_ok X G (c.fact 39 (f := .glo "Words") rfl), eqO_ok w1, eqO_ok w2, of_decide_eq_true w3, of_decide_eq_true w4, of_decide_eq_true w5, ⟨_, _, fk, gk, getter Cl (noat_ok (c.fact 65 (f := .noat "Words" "w_kinds") rfl)) Fk ⟨rfl, rfl, rfl, by decide +kernel, rfl, by decide +kernel, by decide +kernel⟩ rfl, Fk.binds (fun _ _ _ _ _ _ us hl => match us, hl with | [_], _ => rfl)⟩,
    ⟨_, _, ft_, gt, getter Cl (noat_ok (c.fact 66 (f := .noat "Words" "w_ties") rfl)) Ft ⟨rfl, rfl, rfl, by decide +kernel, rfl, by decide +kernel, by decide +kernel⟩ rfl, Ft.binds (fun _ _ _ _ _ _ us hl => match us, hl with | [_], _ => rfl)⟩⟩, ⟨_, glo_ok X G (c.fact 40 (f := .glo "FORMS") rfl), ft c'⟩, b_all X G c, int_ok X G (c.fact 59 (f := .int "MOST_SIZE" 60) rfl), int_ok X G (c.fact 60 (f := .int "MOST_KINDS" 6) rfl), int_ok X G (c.fact 61 (f := .int "MOST_TIES" 3) rfl), str_ok X G (c.fact 62 (f := .str "SIGNS" "(), ") rfl), ⟨_, glo_ok X G (c.fact 41 (f := .glo "ANY") rfl), tupB_ok eA⟩, ⟨_, glo_ok X G (c.fact 42 (f := .glo "NONE") rfl), tupB_ok eN⟩, str_ok X G (c.fact 63 (f := .str "LETTERS" "abcdefghijklmnopqrstuvwxyz") rfl)⟩
theorem mt2 (X : K.In h) (G : h.Ns mainGlobals mg) (c' : SaysP fa fn ts tf ex gs w h K) : MT2 K mg := by
  have c := c'.d
  have e := c'.x.more
  unfold ex at e
  obtain ⟨_, e⟩ := ba e
  obtain ⟨_, e⟩ := ba e
  obtain ⟨e, _⟩ := ba e
  exact ⟨_, glo_ok X G (c.fact 43 (f := .glo "KEPT") rfl), tupB_ok e⟩
theorem mt3 (c : SaysD fa fn K) : MT3 K (ga K "Words") := ⟨noat_ok (c.fact 65 (f := .noat "Words" "w_kinds") rfl), noat_ok (c.fact 66 (f := .noat "Words" "w_ties") rfl)⟩
theorem code_ {x : Str} {st : Stmt} {f : Addr} {fd : FuncData} {ps : List Str} (hf : f = fAd K (x, none)) (D : Df K mg x st ps f fd) : fd.code = .ref (cT K (x, none)).1 := by
  obtain ⟨oc, od, kV, doc, pm, an, cdv, ct, osl, rfl, lk, hcd⟩ := D.F.ex
  obtain ⟨c, e⟩ := codeIn_ref hcd
  rw [hf] at lk
  have := codeOf_eq lk e
  show cdv = .ref (codeOf K (x, none))
  rw [this, e]
theorem law_at {P : Program} {base : Heap} (X : K.In h) (G : h.Ns mainGlobals mg) (c' : SaysP fa fn ts tf ex gs w h K) {f f2 : Addr} {fd fd2 : FuncData} (hf : f = fAd K ("law", none)) (hf2 : f2 = fAd K ("_law_right", none)) (D : Df K mg "law" (topS 54) ["script"] f fd) (D2 : Df K mg "_law_right" (topS 53) ["draw"] f2 fd2)
    (TB : LamX.TabB base mg (cT K ("law", none)).1 (cT K ("law", none)).2) (TB2 : LamX.TabB base mg (cT K ("_law_right", none)).1 (cT K ("_law_right", none)).2) :
    FnOk P w K mg base (L2.CX P w) 134 f fd ["script"] (spL K (cT K ("_law_right", none)).2 (cT K ("law", none)).2) := by
  have M : MT P w K mg base (ga K "Words") := mt X G c'
  have c := c'.d
  have XK := xt_of X G c 34 68 (x := "BadKinds") rfl rfl
  have XS := xt_of X G c 35 69 (x := "BadShape") rfl rfl
  have XT_ := xt_of X G c 36 70 (x := "BadText") rfl rfl
  have XI := xt_of X G c 37 71 (x := "BadTies") rfl rfl
  have XW := xt_of X G c 38 72 (x := "BadWords") rfl rfl
  obtain ⟨_, _, d⟩ := df_inner_of X G c
  have h_inner := d.cal (ok_inner (P := P) (w := w) (base := base) (C := ga K "Words") d.F)
  obtain ⟨_, _, d⟩ := df_has_form X G c
  have h_form := d.cal (ok_form d.F M)
  obtain ⟨_, _, d⟩ := df_is_shape_of X G c
  have h_shp := d.cal (ok_shp d.F M h_form (h_inner.mono (by decide)))
  obtain ⟨_, _, d⟩ := df_need_words X G c
  have h_nw := d.cal (ok_nw d.F M XW)
  obtain ⟨_, _, d⟩ := df_need_shape X G c
  have h_ns := d.cal (ok_ns d.F XS h_shp)
  obtain ⟨_, _, d⟩ := df_text_by X G c
  have h_tb := d.cal (ok_tb d M (h_inner.mono (by decide)) 60)
  obtain ⟨_, _, d⟩ := df_word_at X G c
  have h_wa := d.cal (ok_wa (C := ga K "Words") d.F M)
  obtain ⟨_, _, d⟩ := df_read_at X G c
  obtain ⟨_, _, d2⟩ := df_read_inner X G c
  have h_ra := (ok_reads d d2 M h_wa 59).2
  obtain ⟨_, _, d⟩ := df_shape_in X G c
  have h_si := d.cal (ok_si d.F M h_ra h_shp)
  obtain ⟨_, _, d⟩ := df_shape_text X G c
  have o_st := ok_st d.F h_nw h_ns h_tb
  have h_st := d.cal o_st
  have k_st : CalK P w K mg base "shape_text" 64 ["words", "shape"] ["shape", "words"] _ := ⟨_, _, d.g, d.F.kp, o_st, kb_of d.F fun _ _ _ _ _ _ _ _ => rfl⟩
  obtain ⟨_, _, d⟩ := df_read_shape X G c
  have o_rs := ok_rs d.F XT_ h_nw h_si
  have h_rs := d.cal o_rs
  have k_rs : CalK P w K mg base "read_shape" 124 ["words", "text"] ["text", "words"] _ := ⟨_, _, d.g, d.F.kp, o_rs, kb_of d.F fun _ _ _ _ _ _ _ _ => rfl⟩
  obtain ⟨_, _, d⟩ := df_is_list X G c
  have h_il := d.cal (ok_il (C := ga K "Words") d.F M)
  obtain ⟨_, _, d⟩ := df_is_plain_word X G c
  have h_pw := d.cal (ok_pw (C := ga K "Words") d.F M)
  obtain ⟨_, _, d⟩ := df_are_new_words X G c
  have h_na := d.cal (ok_na d.F M (mt2 X G c') (h_il.mono (by decide)) h_pw)
  obtain ⟨fdi, FDi⟩ := mkD_fun c 33 (p := ("Words", some "__init__")) (name := "__init__") (qual := "Words.__init__") (st := clsS (topS 16) 0) rfl
  have FI := ok_init FDi M (mt3 c) XK XI h_na
  have BI : L2.Binds K fdi ["self", "kinds", "ties"] [] := FDi.binds (fun _ _ _ _ _ _ us hl => match us, hl with | [_, _, _], _ => rfl)
  have MK : Mk K (ga K "Words") _ := mkr_ok (c.fact 67 (f := .mkr "Words") rfl)
  have MW : MkW P w K mg base (ga K "Words") := ⟨_, _, MK, FI, BI⟩
  obtain ⟨_, _, d⟩ := df__law_inner X G c
  have h_li := d.cal (ok_li (P := P) (w := w) (base := base) (C := ga K "Words") d.F)
  obtain ⟨_, _, d⟩ := df__law_text X G c
  have h_lt := d.cal (ok_lt d M (h_li.mono (by decide)) 60)
  obtain ⟨_, _, d⟩ := df__law_words_of X G c
  have h_wo := d.cal (ok_wo d.F M MW)
  obtain ⟨_, _, d⟩ := df__law_split X G c
  have h_ls := d.cal (ok_ls (C := ga K "Words") d.F M)
  obtain ⟨_, _, d⟩ := df__law_read X G c
  have h_lr := d.cal (ok_lr d M h_ls 60)
  obtain ⟨_, _, d⟩ := df__law_kinds X G c
  have h_lk := d.cal (ok_lk (C := ga K "Words") d.F M)
  obtain ⟨_, _, d⟩ := df__law_says X G c
  have h_ly := d.cal (ok_ly d.F h_lk)
  obtain ⟨_, _, d⟩ := df__law_mixed X G c
  have h_mx := d.cal (ok_mx (C := ga K "Words") d.F M)
  obtain ⟨_, _, d⟩ := df__law_take X G c
  have h_ta := d.cal (ok_ta d.F M h_mx)
  obtain ⟨_, _, d⟩ := df__law_pick X G c
  have h_pk := d.cal (ok_pk d.F M h_ta)
  obtain ⟨_, _, d⟩ := df__law_shuffled X G c
  have h_sh := d.cal (ok_sh d.F M h_ta)
  obtain ⟨_, _, d⟩ := df__law_told X G c
  have h_to := d.cal (ok_to d.F M h_sh (h_ta.mono (by decide)) h_pk)
  obtain ⟨_, _, d⟩ := df__law_shape X G c
  have h_sp := d.cal (ok_sp d M (h_ta.mono (by decide)) h_pk 5)
  obtain ⟨_, _, d⟩ := df__law_near_text X G c
  have h_nt := d.cal (ok_nt d.F M (h_ta.mono (by decide)) h_pk)
  obtain ⟨_, _, DC⟩ := df__law_caught X G c
  obtain ⟨_, _, d⟩ := df__law_begun X G c
  have h_bg := d.cal (ok_bg d.F M)
  have e := c'.x.more
  unfold ex at e
  obtain ⟨_, e⟩ := ba e
  obtain ⟨_, e⟩ := ba e
  obtain ⟨_, e⟩ := ba e
  obtain ⟨_, e⟩ := ba e
  obtain ⟨eT, e⟩ := ba e
  obtain ⟨eS, e⟩ := ba e
  obtain ⟨eW, e⟩ := ba e
  obtain ⟨_, e⟩ := ba e
  obtain ⟨_, e⟩ := ba e
  have np : (cT K ("law", none)).2 ≠ (cT K ("_law_right", none)).2 := of_decide_eq_false (by
    cases q : decide ((cT K ("law", none)).2 = (cT K ("_law_right", none)).2) with
    | false => rfl
    | true =>
      rw [q] at e
      cases e)
  have gKE := glo_ok X G (c.fact 33 (f := .glo "KindError") rfl)
  have h_rt := D2.cal (ok_rt D2.F (code_ hf2 D2) M XT_ (excB_ok eT) (exm_ok (c.fact 73 (f := .exm "BadText" "KindError" true) rfl)) (h_to.mono (by decide)) (h_wo.mono (by decide)) (h_sp.mono (by decide)) (h_lt.mono (by decide)) (h_ly.mono (by decide)) (h_st.mono (by decide)) (k_st.mono (by decide)) (h_rs.mono (by decide)) (k_rs.mono (by decide)) (h_nt.mono (by decide)) (h_lr.mono (by decide)) DC gKE TB2)
  exact ok_lw D.F (code_ hf D) np M XT_ XS XW (excB_ok eT) (excB_ok eS) (excB_ok eW) (exm_ok (c.fact 73 (f := .exm "BadText" "KindError" true) rfl)) (exm_ok (c.fact 74 (f := .exm "BadShape" "KindError" true) rfl)) (exm_ok (c.fact 75 (f := .exm "BadWords" "KindError" true) rfl)) (h_bg.mono (by decide)) h_rt (h_pk.mono (by decide)) (h_st.mono (by decide)) (h_rs.mono (by decide)) MK FI BI DC gKE TB
end
end K2

/-! K3k -/
set_option Elab.async false
set_option linter.all false
set_option maxRecDepth 100000
set_option maxHeartbeats 0
open PySem PySem.W PySem.Calls PyProof.Rows He Tk
theorem PySem.Challenge.cw_toldofkinds_k02_whole_texts_of_shapes_holds : PySem.Challenge.rw_toldofkinds_k02_whole_texts_of_shapes.Holds := by
  w_on; o_law
  refine HandSHeadRun.head_any (r := OpenLaw.row PySem.Challenge.rw_toldofkinds_k02_whole_texts_of_shapes) (q := view (OpenLaw.row PySem.Challenge.rw_toldofkinds_k02_whole_texts_of_shapes).prog [54]) (H := K2.hk) (ob := K2.ob) (M := 5000) (loose := K2.names) (d := HandSHeadRun.topDef (OpenLaw.row PySem.Challenge.rw_toldofkinds_k02_whole_texts_of_shapes).prog 54) (kwd := []) K2.ob_eq
    (by kernel_rfl) (fun s => by kernel_rfl) K2.run (by kernel_rfl) (by kernel_rfl) (by kernel_rfl) (by rfl) (by first | assumption | decide +kernel) (by decide +kernel) ⟨rfl, rfl, rfl, rfl, rfl, by decide +kernel⟩ ?hw ?hc
  case hw => w_witness2
  case hc =>
    refine LamX.walk_ofTsE (l := PySem.Challenge.rw_toldofkinds_k02_whole_texts_of_shapes) (n := 63) (k := 134) (x := "script") (CX := fun w => L2.CX (PySem.Challenge.rw_toldofkinds_k02_whole_texts_of_shapes).prog w) rfl (by decide) (by kernel_rfl) ⟨rfl, by decide, by decide⟩ ?F (fun w H s e s' z => ?z)
    case z =>
      obtain ⟨_, _, _, _, _, _, _, _, _, _, _, _, z⟩ := z
      exact z.elim
    intro w mg fa h Y G hmg0
    obtain ⟨K, KX, c⟩ := Y
    have hmg : mg ("law" : PySem.Str) = some (.ref fa) := by
      have e : (HandSHeadRun.topDef (OpenLaw.row PySem.Challenge.rw_toldofkinds_k02_whole_texts_of_shapes).prog 54).name = ("law" : PySem.Str) := by kernel_rfl
      rw [← e]
      exact hmg0
    have cd := c.d
    obtain ⟨fd, F⟩ := mkD_fun cd 32 (p := ("law", none)) (name := "law") (qual := "law") (st := K2.topS 54) rfl
    obtain ⟨fd2, F2⟩ := mkD_fun cd 31 (p := ("_law_right", none)) (name := "_law_right") (qual := "_law_right") (st := K2.topS 53) rfl
    have g1 := glo_ok KX G (cd.fact 32 (f := .glo "law") rfl)
    have g2 := glo_ok KX G (cd.fact 31 (f := .glo "_law_right") rfl)
    have e1 : fa = fAd K ("law", none) := by
      have := hmg.symm.trans g1
      cases this
      rfl
    have b1 := F.binds (ps := ["script"]) (fun _ _ _ _ _ _ us hl => match us, hl with | [_], _ => rfl)
    have b2 := F2.binds (ps := ["draw"]) (fun _ _ _ _ _ _ us hl => match us, hl with | [_], _ => rfl)
    refine ⟨K, KX, fd, [cT K ("_law_right", none), cT K ("law", none)], K2.spL K (cT K ("_law_right", none)).2 (cT K ("law", none)).2, fun p hp => ?_, fun p hp => ?_, fun p hp => ?_, fun s u => ?_, fun H a ns hl _ hT hS => ⟨a, ns, rfl, hS, Nat.le_trans hl (by decide), hT _ (.head _), hT _ (.tail _ (.head _)), fun _ => rfl⟩, fun base hK hN hTB => ?_⟩
    · rcases List.mem_cons.mp hp with rfl | hp
      · exact c.x.empty _ (.head _)
      · rw [List.mem_singleton.mp hp]
        exact c.x.empty _ (.tail _ (.head _))
    · rcases List.mem_cons.mp hp with rfl | hp
      · exact c.x.out _ (.head _)
      · rw [List.mem_singleton.mp hp]
        exact c.x.out _ (.tail _ (.head _))
    · rcases List.mem_cons.mp hp with rfl | hp
      · exact codeHd_of_K KX (c.x.hd _ (.head _))
      · rw [List.mem_singleton.mp hp]
        exact codeHd_of_K KX (c.x.hd _ (.tail _ (.head _)))
    · obtain ⟨oc, od, kV, doc, pm, an, cdv, ct, osl, rfl, lk, hcd⟩ := F.ex
      exact .of_eq rfl
    · subst e1
      exact K2.law_at (P := (PySem.Challenge.rw_toldofkinds_k02_whole_texts_of_shapes).prog) KX G c rfl rfl ⟨F, g1, b1⟩ ⟨F2, g2, b2⟩ (hTB _ (.tail _ (.head _))) (hTB _ (.head _))
