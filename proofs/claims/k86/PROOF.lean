import PyProof.Rows.All
import Wide.All
import OpenK.AllK
import Wide.FinOn
import HandS.ForMost
import HandS.Deep
import HandS.Exc
import HandS.WordsExc
import HandS.TupAny
import HandS.TupMul
import HandS.TupLe
import HandS.Wide
import HandS.WideBits
import HandS.Gcd
import KE.SortData
import KE.DataIsa
import KE.LtData
import PyProof.ReprRoads
import PyProof.P3In
import KE.GoesNew
import HandS.Zip
import PyProof.SeqIndex
import KE.KIndexOf
import HandS.Ends
import HandS.Defaults
import HandS.HeadEnd
import HandS.SetFor
import HandS.Set
import KE.DataMinMax
import KE.KRevSl
import HandS.Style
import HandS.Words
import HandS.Conv
import KE.KStateDown
import Lean
import HandS.Base
import HandS.Call
import HandS.More
import HandS.Head0
import HandS.Head1
import HandS.Head2
import HandS.HeadHook1
import HandS.HeadHook2
import PySem.Challenge.RW_asktell_k86_any_values_as_ways_and_refus
set_option Elab.async false
set_option linter.all false
set_option maxRecDepth 100000
set_option maxHeartbeats 2000000
/-! EvA: a small pure language over PyData: its states and its monad. -/
namespace Ev
open PySem PySem.Spec L2

/-- what an expression gives: the datum; fr: it is a list that nobody else holds -/
structure RV where
  d : PyData
  fr : Bool

/-- a slot: nothing, a datum, a list of one's own (b: lent by the caller) -/
inductive Sl where
  | un
  | vl (d : PyData)
  | ow (b : Bool) (ds : List PyData)
abbrev En := List Sl

structure Exn where
  name : Str
  arg : PyData

inductive Rs (α : Type) where
  | ok (a : α) (e : En)
  | ex (x : Exn) (e : En)

def M (α : Type) := En → Option (Rs α)
def M.ret {α : Type} (a : α) : M α := fun e => some (.ok a e)
def M.bnd {α β : Type} (m : M α) (f : α → M β) : M β := fun e => match m e with
  | none => none
  | some (.ok a e') => f a e'
  | some (.ex x e') => some (.ex x e')
instance : Monad M where
  pure := M.ret
  bind := M.bnd

/-- it runs and ends so, or raises so -/
def Ok {α : Type} (m : M α) (e : En) (P : α → En → Prop) (W : Exn → En → Prop) : Prop := match m e with
  | none => False
  | some (.ok a e') => P a e'
  | some (.ex x e') => W x e'

section
variable {α β : Type} {m : M α} {f : α → M β} {e : En} {P P' : α → En → Prop} {W W' : Exn → En → Prop}
theorem Ok.imp (h : Ok m e P W) (hp : ∀ a e', P a e' → P' a e') (hw : ∀ x e', W x e' → W' x e') : Ok m e P' W' := by
  unfold Ok at h ⊢
  split at h
  · exact h.elim
  · exact hp _ _ h
  · exact hw _ _ h
theorem ok_bind {Q : β → En → Prop} : Ok (m >>= f) e Q W ↔ Ok m e (fun a e' => Ok (f a) e' Q W) W := by
  show Ok (M.bnd m f) e Q W ↔ _
  unfold Ok M.bnd
  cases m e with
  | none => simp
  | some r => cases r <;> simp
theorem ok_pure {a : α} : Ok (pure a : M α) e P W ↔ P a e := Iff.rfl
end

def liftO {α : Type} (o : Option α) : M α := fun e => o.map fun a => .ok a e
theorem ok_liftO {α : Type} {o : Option α} {e : En} {P : α → En → Prop} {W : Exn → En → Prop} : Ok (liftO o) e P W ↔ ∃ a, o = some a ∧ P a e := by
  unfold Ok liftO
  cases o <;> simp

/-- an operand: a slot, or a datum -/
inductive OV where
  | sl (i : Nat)
  | vl (d : PyData)
@[simp] def slotD (e : En) (i : Nat) : Option PyData := match e[i]? with
  | some (.vl d) => some d
  | some (.ow _ ds) => some (.list ds)
  | _ => none
def derS (i : Nat) : M PyData := fun e => (slotD e i).map fun d => .ok d e
theorem ok_derS {i : Nat} {e : En} {P : PyData → En → Prop} {W : Exn → En → Prop} : Ok (derS i) e P W ↔ ∃ a, slotD e i = some a ∧ P a e := by
  unfold Ok derS
  cases slotD e i <;> simp
def der : OV → M PyData
  | .vl d => pure d
  | .sl i => derS i
@[simp] def ders : List OV → M (List PyData)
  | [] => pure []
  | o :: os => do
    let d ← der o
    let ds ← ders os
    pure (d :: ds)

/-- a name read as a value: a list of one's own is given away -/
def readV (i : Nat) : M RV := fun e => match e[i]? with
  | some (.vl d) => some (.ok ⟨d, false⟩ e)
  | some (.ow false ds) => some (.ok ⟨.list ds, false⟩ (e.set i (.vl (.list ds))))
  | _ => none
/-- a name as an operand: it is not given away -/
def readO (i : Nat) : M OV := fun e => match e[i]? with
  | some (.vl d) => some (.ok (.vl d) e)
  | some (.ow _ _) => some (.ok (.sl i) e)
  | _ => none
@[simp] def toO (m : M RV) : M OV := do
  let r ← m
  pure (.vl r.d)
/-- a name returned: a list of one's own goes with it -/
def readR (i : Nat) : M RV := fun e => match e[i]? with
  | some (.vl d) => some (.ok ⟨d, false⟩ e)
  | some (.ow false ds) => some (.ok ⟨.list ds, true⟩ (e.set i .un))
  | _ => none
/-- what raises is stuck -/
def noX {α : Type} (m : M α) : M α := fun e => match m e with
  | some (.ok a e') => some (.ok a e')
  | _ => none
theorem ok_noX {α : Type} {m : M α} {e : En} {P : α → En → Prop} {W W' : Exn → En → Prop} (h : Ok (noX m) e P W) : Ok m e P W' := by
  unfold Ok noX at *
  cases q : m e with
  | none => rw [q] at h; exact h
  | some r =>
    rw [q] at h
    cases r with
    | ok a e' => exact h
    | ex x e' => exact h.elim

/-- a slot is stored -/
def Sl.of (r : RV) : Sl := match r.fr, r.d with
  | true, .list ds => .ow false ds
  | _, d => .vl d
def store (i : Nat) (r : RV) : M Unit := fun e => if i < e.length then some (.ok () (e.set i (.of r))) else none
def wipeE (e : En) : List Nat → En
  | [] => e
  | v :: vs => (wipeE e vs).set v .un
def backE (e0 e1 : En) : List Nat → En
  | [] => e1
  | v :: vs => (backE e0 e1 vs).set v (e0.getD v .un)

@[simp] def isB : PyData → Option Bool
  | .bool b => some b
  | _ => none
@[simp] def asB (m : M RV) : M Bool := do
  let r ← m
  liftO (isB r.d)
end Ev

set_option Elab.async false
set_option linter.all false
set_option maxRecDepth 100000
set_option maxHeartbeats 2000000
/-! EvT: new tuples, known as objects without a dict of their own. -/
namespace Ev
open PySem PySem.Spec L2
/-- a tuple at a whose object bears no dict -/
def TupR (K : PySem.W.Frag) (H : Hp) (a : Addr) (xs : List V) : Prop := (∃ o : Obj, H a = some (.frz o (.tup xs)) ∧ o.dict = none) ∨
  ∃ (o : Obj) (its : Array Value) (n : Nat), K.lookup a = some o ∧ o.cls = .type "tuple" ∧ o.dict = none ∧ o.data = .seq its n ∧ its.size ≤ sizeLine ∧ Vals xs its.toList
theorem TupR.sqT {K : PySem.W.Frag} {H : Hp} {a : Addr} {xs : List V} (h : TupR K H a xs) : SqT K H a xs := by
  rcases h with ⟨o, h, _⟩ | ⟨o, its, n, h1, h2, _, h3, h4, h5⟩
  · exact .inl (.inr ⟨o, h⟩)
  · exact .inr ⟨o, its, n, h1, h2, h3, h4, h5⟩
theorem TupR.same {K : PySem.W.Frag} {H H' : Hp} {a : Addr} {xs : List V} (e : Same H H') (h : TupR K H a xs) : TupR K H' a xs := by
  rcases h with ⟨o, h, d⟩ | h
  · exact .inl ⟨o, e _ _ h, d⟩
  · exact .inr h
/-- what a rule that makes a tuple of vs hands on -/
def NewT (vs : List V) (H : Hp) (Q : VK) : Prop := ∀ (p : Addr) (o : Obj), H p = none → o.dict = none → Q (.ref p) (upd H p (.frz o (.tup vs)))
section
variable {X : Cx} {pins : List (Addr × Obj)} {σ : St} {H : Hp} {s : Shared}
/-- a tuple object pushed -/
theorem newT (I : Inv X pins σ H s) {vs : List V} {us : List Value} {t : Nat} {Q : VK} (r : Vals vs us) (z : vs.length ≤ sizeLine) (q : NewT vs H Q) :
    EP X pins σ Q (.ref s.heap.objs.size) { s with heap := s.heap.push { cls := .type "tuple", data := .seq us.toArray }, toks := t } := by
  have hn : H s.heap.objs.size = none := I.hok.fresh (Nat.le_refl _)
  have e := Heap.get?_push_size s.heap (o := { cls := .type "tuple", data := .seq us.toArray }) rfl
  refine ⟨.ref s.heap.objs.size, _, I.laid (t' := t) (o := .frz { cls := .type "tuple", data := .seq us.toArray } (.tup vs)) (fun b ob q => Heap.get?_push_of_some _ q) (Nat.le_refl _) ⟨e, z, us, r, ⟨_, e, rfl, 0, rfl⟩⟩, rfl, q _ _ hn rfl⟩
/-- (a, b, ..) -/
def tTupZ (t : TA) : TE := fun σ H Q => t σ H fun xs H1 => xs.length ≤ sizeLine ∧ NewT xs H1 Q
theorem pe_tupZ {es : List Expr} {t : TA} {pos : Pos} {k : Nat} (h : PA X es t) : PE X (.Tuple es k pos) (tTupZ t) := by
  refine ⟨fun pins s σ H Q I hq => ?_⟩
  refine wpAny_Tuple_spliced (thn (h.run pos pins s σ H _ I hq) fun us s1 ⟨xs, H1, I1, r, z, q⟩ => ⟨?_, ?_⟩)
  · rw [← r.length]; exact z
  · exact newT (t := s1.toks) I1 r z q
/-- tuple(x) -/
def rTupleZ (K : PySem.W.Frag) : List V → Hp → VK → Prop := fun xs H Q => ∃ p ys, xs = [.ref p] ∧ ((SqL K H p ys ∧ NewT ys H Q) ∨ (SqT K H p ys ∧ Q (.ref p) H))
theorem cr_tupleZ : CallR X (.type "tuple") (rTupleZ X.K) := by
  intro pins s σ H xs us Q I r ⟨p, ys, ex, h⟩
  subst ex
  rw [Vals.ref1 r]
  rcases h with ⟨hq, q⟩ | ⟨hq, q⟩
  · obtain ⟨its, r', pl, hz⟩ := I.list hq
    have hl := r'.length
    refine call_tuple_list pl.isList (fun h' kp => ?_) (by simp only [List.size_toArray]; omega)
    exact newT (t := s.toks) (I.kept (t' := s.toks) kp) r' hz q
  · obtain ⟨its, r', pl, hz⟩ := I.tuple hq
    exact call_tuple_same pl ⟨.ref p, H, I, rfl, q⟩
/-- t + u -/
def rCatZ (K : PySem.W.Frag) : R2 := fun x y H Q => ∃ a b xs ys, x = .ref a ∧ y = .ref b ∧ SqT K H a xs ∧ SqT K H b ys ∧ xs.length + ys.length ≤ sizeLine ∧
  (xs = [] → Q (.ref b) H) ∧ (xs ≠ [] → ys = [] → Q (.ref a) H) ∧ (xs ≠ [] → ys ≠ [] → NewT (xs ++ ys) H Q)
theorem op_catZ : OpR X (binaryOp .Add) (rCatZ X.K) := by
  intro pins s σ H x y v u Q I rx ry ⟨a, b, xs, ys, ex, ey, ha, hb, hz, q0, q1, q2⟩
  subst ex ey
  cases rx
  cases ry
  obtain ⟨its, r1, p1, _⟩ := I.tuple ha
  obtain ⟨its2, r2, p2, _⟩ := I.tuple hb
  by_cases hx : xs = []
  · subst hx
    cases r1
    exact cat_tup0 p1 p2 ⟨.ref b, H, I, rfl, q0 rfl⟩
  · refine HT.cat_tup p1 p2 (fun z => hx (r1.nil_iff.mp z)) (fun z => ⟨.ref a, H, I, rfl, q1 hx (r2.nil_iff.mp z)⟩) (fun z => ?_) (by rw [← r1.length, ← r2.length]; exact hz)
    exact newT (t := s.toks) I (r1.append r2) (by rw [List.length_append]; exact hz) (q2 hx fun w => z (r2.nil_iff.mpr w))
/-- t[lo:hi] -/
def rSlZ (K : PySem.W.Frag) : V → Option Int → Option Int → Hp → VK → Prop := fun x lo hi H Q => ∃ a xs, x = .ref a ∧ SqT K H a xs ∧
  (HT.sIx xs.length 0 lo = 0 ∧ HT.sIx xs.length xs.length hi = xs.length → Q (.ref a) H) ∧ (¬ (HT.sIx xs.length 0 lo = 0 ∧ HT.sIx xs.length xs.length hi = xs.length) → NewT (cutV xs lo hi) H Q)
theorem sl_tupZ : SlR X (rSlZ X.K) := by
  intro pins s σ H x v vl vu lo hi sl Q I rx hs pl pu ⟨a, xs, ex, hx, q1, q2⟩
  subst ex
  cases rx
  obtain ⟨its, r, ht, hz⟩ := I.tuple hx
  have hl : its.toArray.size = xs.length := by rw [List.size_toArray]; exact r.length.symm
  refine ⟨"tuple", _, PyProof.Rows.slot_tuple_getitem.lookup, ht.typeIs, ?_⟩
  by_cases hw : HT.sIx xs.length 0 lo = 0 ∧ HT.sIx xs.length xs.length hi = xs.length
  · exact getItem_tuple_whole ht hs pl pu (by rw [hl]; exact hw) ⟨.ref a, H, I, rfl, q1 hw⟩
  · refine HT.getItem_tuple_cut ht hs pl pu (by rw [hl]; exact hw) ?_ (by rw [hl]; exact hz)
    rw [hl]
    exact newT (t := s.toks) I ((r.drop _).take _) (Nat.le_trans (cutV_length xs lo hi) hz) (q2 hw)
/-- divmod(i, j) -/
def rDivmodZ : List V → Hp → VK → Prop := fun xs H Q => ∃ i j : Int, xs = [.int i, .int j] ∧ 0 < j ∧ j < 1073741824 ∧ NewT [.int (i / j), .int (i % j)] H Q
theorem cr_divmodZ : CallR X (.builtin "divmod") rDivmodZ := by
  intro pins s σ H xs us Q I r ⟨i, j, ex, h1, h2, q⟩
  subst ex
  obtain ⟨u, w', rfl, ⟨t, rfl⟩, ⟨t', rfl⟩⟩ := Vals.two r
  refine PyProof.Rows.divmod_int (by omega) ?_ (.inl (PyProof.noPylong_small (by omega)))
  rw [Int.fdiv_eq_ediv_of_nonneg i (by omega), Int.fmod_eq_emod_of_nonneg i (by omega)]
  exact newT (t := s.toks + 1 + 1) I (vs := [.int (i / j), .int (i % j)]) (us := [.int (i / j) s.toks, .int (i % j) (s.toks + 1)]) (.cons ⟨_, rfl⟩ (.cons ⟨_, rfl⟩ .nil)) (by show 2 ≤ sizeLine; decide) q
end
end Ev

set_option Elab.async false
set_option linter.all false
set_option maxRecDepth 100000
set_option maxHeartbeats 2000000
/-! EvB: how states lie in the abstract heap. -/
namespace Ev
open PySem PySem.Spec L2

theorem sqT_same {K : PySem.W.Frag} {H H' : Hp} {a : Addr} {xs : List V} (e : Same H H') (h : SqT K H a xs) : SqT K H' a xs := by
  rcases h with (h | ⟨o, h⟩) | h
  · exact .inl (.inl (e _ _ h))
  · exact .inl (.inr ⟨o, e _ _ h⟩)
  · exact .inr h
theorem rd_same {H H' : Hp} {a : Addr} {u : HO} (e : Same H H') (h : Rd H a u) : Rd H' a u := by
  rcases h with h | ⟨o, h⟩
  · exact .inl (e _ _ h)
  · exact .inr ⟨o, e _ _ h⟩
/-- a list that is read: a tracked one, or one of the module's own -/
def LsR (K : PySem.W.Frag) (H : Hp) (a : Addr) (xs : List V) : Prop := Rd H a (.lst xs) ∨ ∃ (its : List Value) (n : Nat), K.lookup a = some { cls := .type "list", data := .seq its.toArray n } ∧ Vals xs its ∧ xs.length ≤ sizeLine
theorem LsR.same {K : PySem.W.Frag} {H H' : Hp} {a : Addr} {xs : List V} (e : Same H H') (h : LsR K H a xs) : LsR K H' a xs := h.imp (rd_same e) id
theorem LsR.sqL {K : PySem.W.Frag} {H : Hp} {a : Addr} {xs : List V} (h : LsR K H a xs) : SqL K H a xs := by
  rcases h with h | ⟨its, n, h1, h2, h3⟩
  · exact .inl h
  · exact .inr ⟨_, its.toArray, n, h1, rfl, rfl, rfl, by rw [List.size_toArray, ← h2.length]; exact h3, h2⟩
theorem LsR.of {K : PySem.W.Frag} {H : Hp} {a : Addr} {xs : List V} (h : H a = some (.lst xs)) : LsR K H a xs := .inl (.of h)
/-! a datum lies at v: lists are tracked -/
mutual
inductive Rp (K : PySem.W.Frag) (H : Hp) : V → PyData → Prop
  | non : Rp K H .non .none
  | bl (b : Bool) : Rp K H (.bl b) (.bool b)
  | int (i : Int) : Rp K H (.int i) (.int i)
  | str (x : Str) : Rp K H (.str x) (.str x)
  | lst {a : Addr} {xs : List V} {ds : List PyData} : LsR K H a xs → RpAll K H xs ds → Rp K H (.ref a) (.list ds)
  | tup {a : Addr} {xs : List V} {ds : List PyData} : TupR K H a xs → RpAll K H xs ds → Rp K H (.ref a) (.tuple ds)
inductive RpAll (K : PySem.W.Frag) (H : Hp) : List V → List PyData → Prop
  | nil : RpAll K H [] []
  | cons {v : V} {vs : List V} {d : PyData} {ds : List PyData} : Rp K H v d → RpAll K H vs ds → RpAll K H (v :: vs) (d :: ds)
end
mutual
theorem rp_same {K : PySem.W.Frag} {H H' : Hp} (e : Same H H') : ∀ (d : PyData) (v : V), Rp K H v d → Rp K H' v d
  | .none, _, h => by cases h; exact .non
  | .bool _, _, h => by cases h; exact .bl _
  | .int _, _, h => by cases h; exact .int _
  | .str _, _, h => by cases h; exact .str _
  | .list ds, _, h => by
    cases h with
    | lst hs ha => exact .lst (hs.same e) (rps_same e ds _ ha)
  | .tuple ds, _, h => by
    cases h with
    | tup hs ha => exact .tup (hs.same e) (rps_same e ds _ ha)
  | .dict _, _, h => by cases h
theorem rps_same {K : PySem.W.Frag} {H H' : Hp} (e : Same H H') : ∀ (ds : List PyData) (vs : List V), RpAll K H vs ds → RpAll K H' vs ds
  | [], _, h => by cases h; exact .nil
  | d :: ds, _, h => by
    cases h with
    | cons h1 h2 => exact .cons (rp_same e d _ h1) (rps_same e ds _ h2)
end
mutual
theorem rp_dp {K : PySem.W.Frag} {H : Hp} : ∀ (d : PyData) (v : V), Rp K H v d → L2.Dp K H v d
  | .none, _, h => by cases h; exact .non
  | .bool _, _, h => by cases h; exact .bl _
  | .int _, _, h => by cases h; exact .int _
  | .str _, _, h => by cases h; exact .str _
  | .list ds, _, h => by
    cases h with
    | lst hs ha => exact .lst hs.sqL (rps_dp ds _ ha)
  | .tuple ds, _, h => by
    cases h with
    | tup hs ha => exact .tup hs.sqT (rps_dp ds _ ha)
  | .dict _, _, h => by cases h
theorem rps_dp {K : PySem.W.Frag} {H : Hp} : ∀ (ds : List PyData) (vs : List V), RpAll K H vs ds → L2.DpAll K H vs ds
  | [], _, h => by cases h; exact .nil
  | d :: ds, _, h => by
    cases h with
    | cons h1 h2 => exact .cons (rp_dp d _ h1) (rps_dp ds _ h2)
end
section
variable {K : PySem.W.Frag} {H G G' : Hp}
theorem Rp.up {v : V} {d : PyData} (h : Rp K G v d) (e : Same G G') : Rp K G' v d := rp_same e _ _ h
theorem RpAll.up {vs : List V} {ds : List PyData} (h : RpAll K G vs ds) (e : Same G G') : RpAll K G' vs ds := rps_same e _ _ h
theorem RpAll.len : ∀ {vs : List V} {ds : List PyData}, RpAll K G vs ds → vs.length = ds.length
  | _, _, .nil => rfl
  | _, _, .cons _ t => by simp [RpAll.len t]
theorem RpAll.get : ∀ {vs : List V} {ds : List PyData} {i : Nat} {d : PyData}, RpAll K G vs ds → ds[i]? = some d → ∃ v, vs[i]? = some v ∧ Rp K G v d
  | _, _, _, _, .nil, e => by simp at e
  | _, _, 0, _, .cons h _, e => by simp at e; subst e; exact ⟨_, rfl, h⟩
  | _, _, i + 1, _, .cons _ t, e => by
    obtain ⟨v, h1, h2⟩ := RpAll.get (i := i) t (by simpa using e)
    exact ⟨v, by simpa using h1, h2⟩
theorem RpAll.getV : ∀ {vs : List V} {ds : List PyData} {i : Nat} {v : V}, RpAll K G vs ds → vs[i]? = some v → ∃ d, ds[i]? = some d ∧ Rp K G v d
  | _, _, _, _, .nil, e => by simp at e
  | _, _, 0, _, .cons h _, e => by simp at e; subst e; exact ⟨_, rfl, h⟩
  | _, _, i + 1, _, .cons _ t, e => by
    obtain ⟨v, h1, h2⟩ := RpAll.getV (i := i) t (by simpa using e)
    exact ⟨v, by simpa using h1, h2⟩
theorem RpAll.app : ∀ {vs ws : List V} {ds es : List PyData}, RpAll K G vs ds → RpAll K G ws es → RpAll K G (vs ++ ws) (ds ++ es)
  | _, _, _, _, .nil, h => h
  | _, _, _, _, .cons h t, s => .cons h (RpAll.app t s)
theorem RpAll.set {v : V} {d : PyData} (h : Rp K G v d) : ∀ {vs : List V} {ds : List PyData} (i : Nat), RpAll K G vs ds → RpAll K G (vs.set i v) (ds.set i d)
  | _, _, _, .nil => .nil
  | _, _, 0, .cons _ t => .cons h t
  | _, _, i + 1, .cons q t => .cons q (RpAll.set h i t)
theorem RpAll.take : ∀ {vs : List V} {ds : List PyData} (n : Nat), RpAll K G vs ds → RpAll K G (vs.take n) (ds.take n)
  | _, _, 0, _ => .nil
  | _, _, _ + 1, .nil => .nil
  | _, _, n + 1, .cons h t => .cons h (RpAll.take n t)
theorem RpAll.drop : ∀ {vs : List V} {ds : List PyData} (n : Nat), RpAll K G vs ds → RpAll K G (vs.drop n) (ds.drop n)
  | _, _, 0, h => h
  | _, _, _ + 1, .nil => .nil
  | _, _, n + 1, .cons _ t => RpAll.drop n t
theorem RpAll.ints : ∀ {vs : List V} {ns : List Int}, RpAll K G vs (ns.map PyData.int) → vs = ns.map V.int
  | _, [], h => by cases h; rfl
  | _, n :: ns, h => by
    cases h with
    | cons h1 h2 => cases h1; simp [RpAll.ints h2]
theorem RpAll.bls : ∀ {vs : List V} {ns : List Bool}, RpAll K G vs (ns.map PyData.bool) → vs = ns.map V.bl
  | _, [], h => by cases h; rfl
  | _, n :: ns, h => by
    cases h with
    | cons h1 h2 => cases h1; simp [RpAll.bls h2]
theorem RpAll.strs : ∀ {vs : List V} {ns : List Str}, RpAll K G vs (ns.map PyData.str) → vs = ns.map V.str
  | _, [], h => by cases h; rfl
  | _, n :: ns, h => by
    cases h with
    | cons h1 h2 => cases h1; simp [RpAll.strs h2]
theorem rps_ints : ∀ ns : List Int, RpAll K G (ns.map V.int) (ns.map PyData.int)
  | [] => .nil
  | _ :: ns => .cons (.int _) (rps_ints ns)

/-- a datum that is read now: given away, or a list of one's own at the top -/
def Dw (K : PySem.W.Frag) (G H : Hp) (v : V) (d : PyData) : Prop := Rp K G v d ∨ ∃ p vs ds, v = .ref p ∧ d = .list ds ∧ H p = some (.lst vs) ∧ RpAll K G vs ds
theorem Dw.rp {v : V} {d : PyData} (h : Dw K G H v d) (s : Same G H) : Rp K H v d := by
  rcases h with h | ⟨p, vs, ds, rfl, rfl, e, a⟩
  · exact h.up s
  · exact .lst (.of e) (a.up s)
theorem Dw.lst {v : V} {ds : List PyData} (h : Dw K G H v (.list ds)) (s : Same G H) : ∃ p vs, v = .ref p ∧ LsR K H p vs ∧ RpAll K G vs ds := by
  rcases h with h | ⟨p, vs, ds', rfl, e', e, a⟩
  · cases h with
    | lst h1 h2 => exact ⟨_, _, rfl, h1.same s, h2⟩
  · cases e'
    exact ⟨p, vs, rfl, .of e, a⟩
theorem Dw.tup {v : V} {ds : List PyData} (h : Dw K G H v (.tuple ds)) (s : Same G H) : ∃ p vs, v = .ref p ∧ TupR K H p vs ∧ RpAll K G vs ds := by
  rcases h with h | ⟨p, vs, ds', rfl, e', e, a⟩
  · cases h with
    | tup h1 h2 => exact ⟨_, _, rfl, h1.same s, h2⟩
  · cases e'
theorem Dw.int {v : V} {i : Int} (h : Dw K G H v (.int i)) : v = .int i := by
  rcases h with h | ⟨p, vs, ds', rfl, e', e, a⟩
  · cases h; rfl
  · cases e'
theorem Dw.bl {v : V} {i : Bool} (h : Dw K G H v (.bool i)) : v = .bl i := by
  rcases h with h | ⟨p, vs, ds', rfl, e', e, a⟩
  · cases h; rfl
  · cases e'
theorem Dw.str {v : V} {i : Str} (h : Dw K G H v (.str i)) : v = .str i := by
  rcases h with h | ⟨p, vs, ds', rfl, e', e, a⟩
  · cases h; rfl
  · cases e'
theorem Dw.non {v : V} (h : Dw K G H v .none) : v = .non := by
  rcases h with h | ⟨p, vs, ds', rfl, e', e, a⟩
  · cases h; rfl
  · cases e'
end

/-- a state lies so: G is given away (never written any more), F is the frame (left as it is), B the lent lists' places -/
structure SR (K : PySem.W.Frag) (F : Hp) (B : List (Nat × Addr)) (σ : St) (H : Hp) (e : En) (G : Hp) : Prop where
  len : e.length = σ.length
  sub : Same G H
  frm : Same F H
  dsj : ∀ a o, F a = some o → G a = none
  vls : ∀ (i : Nat) (d : PyData), e[i]? = some (.vl d) → ∃ v, σ[i]? = some (some v) ∧ Rp K G v d
  ows : ∀ (i : Nat) (b : Bool) (ds : List PyData), e[i]? = some (.ow b ds) → ∃ p vs, σ[i]? = some (some (.ref p)) ∧ G p = none ∧ F p = none ∧ H p = some (.lst vs) ∧ RpAll K G vs ds ∧ (b = true → (i, p) ∈ B)
  dis : ∀ (i j : Nat) (b c : Bool) (ds es : List PyData) (p : Addr), e[i]? = some (.ow b ds) → e[j]? = some (.ow c es) → σ[i]? = some (some (.ref p)) → σ[j]? = some (some (.ref p)) → i = j

/-- how a result lies -/
def RR (K : PySem.W.Frag) (F : Hp) (σ : St) (H : Hp) (e : En) (G : Hp) (v : V) (r : RV) : Prop := match r.fr with
  | true => ∃ p vs ds, v = .ref p ∧ r.d = .list ds ∧ G p = none ∧ F p = none ∧ H p = some (.lst vs) ∧ RpAll K G vs ds ∧ ∀ (i : Nat) (b : Bool) (es : List PyData), e[i]? = some (.ow b es) → σ[i]? ≠ some (some (.ref p))
  | false => Rp K G v r.d
def OR (K : PySem.W.Frag) (σ : St) (G : Hp) (v : V) : OV → Prop
  | .sl i => σ[i]? = some (some v)
  | .vl d => Rp K G v d
inductive ORs (K : PySem.W.Frag) (σ : St) (G : Hp) : List V → List OV → Prop
  | nil : ORs K σ G [] []
  | cons {v : V} {vs : List V} {o : OV} {os : List OV} : OR K σ G v o → ORs K σ G vs os → ORs K σ G (v :: vs) (o :: os)
inductive Dws (K : PySem.W.Frag) (G H : Hp) : List V → List PyData → Prop
  | nil : Dws K G H [] []
  | cons {v : V} {vs : List V} {o : PyData} {os : List PyData} : Dw K G H v o → Dws K G H vs os → Dws K G H (v :: vs) (o :: os)

theorem same_upd {G : Hp} {p : Addr} {o : HO} (h : G p = none) : Same G (upd G p o) := fun b u e => by
  rw [upd_ne (ne_of_none e h)]
  exact e

section
variable {K : PySem.W.Frag} {F : Hp} {B : List (Nat × Addr)} {σ : St} {H : Hp} {e : En} {G : Hp}
/-- an address given away -/
theorem SR.freeze (s : SR K F B σ H e G) {p : Addr} {o : HO} (hp : H p = some o) (hG : G p = none) (hF : F p = none) (no : ∀ (i : Nat) (b : Bool) (es : List PyData), e[i]? = some (.ow b es) → σ[i]? ≠ some (some (.ref p))) :
    SR K F B σ H e (upd G p o) := by
  have sm := same_upd (o := o) hG
  refine ⟨s.len, fun b u q => ?_, s.frm, fun a u q => ?_, fun i d q => ?_, fun i b ds q => ?_, s.dis⟩
  · by_cases hb : b = p
    · subst hb; rw [upd_same] at q; rw [← q]; exact hp
    · rw [upd_ne hb] at q; exact s.sub b u q
  · rw [upd_ne (ne_of_none q hF)]
    exact s.dsj a u q
  · obtain ⟨v, h1, h2⟩ := s.vls i d q
    exact ⟨v, h1, h2.up sm⟩
  · obtain ⟨p', vs, h1, h2, h3, h4, h5, h6⟩ := s.ows i b ds q
    have ne : p' ≠ p := fun z => no i b ds q (by rw [h1, z])
    exact ⟨p', vs, h1, by rw [upd_ne ne]; exact h2, h3, h4, h5.up sm, h6⟩
/-- a new object -/
theorem SR.new (s : SR K F B σ H e G) {p : Addr} {o : HO} (hp : H p = none) : SR K F B σ (upd H p o) e G := by
  have sm := same_upd (o := o) hp
  refine ⟨s.len, s.sub.trans sm, s.frm.trans sm, s.dsj, s.vls, fun i b ds q => ?_, s.dis⟩
  obtain ⟨p', vs, h1, h2, h3, h4, h5, h6⟩ := s.ows i b ds q
  exact ⟨p', vs, h1, h2, h3, sm _ _ h4, h5, h6⟩
theorem SR.newG (s : SR K F B σ H e G) {p : Addr} (hp : H p = none) : G p = none := s.sub.free hp
theorem SR.newF (s : SR K F B σ H e G) {p : Addr} (hp : H p = none) : F p = none := s.frm.free hp
theorem SR.newO (s : SR K F B σ H e G) {p : Addr} (hp : H p = none) : ∀ (i : Nat) (b : Bool) (es : List PyData), e[i]? = some (.ow b es) → σ[i]? ≠ some (some (.ref p)) := fun i b es q z => by
  obtain ⟨p', vs, h1, h2, h3, h4, _⟩ := s.ows i b es q
  rw [z] at h1
  cases h1
  rw [hp] at h4
  cases h4
/-- a result given away -/
theorem RR.freeze {v : V} {r : RV} (h : RR K F σ H e G v r) (s : SR K F B σ H e G) : ∃ G', SR K F B σ H e G' ∧ Same G G' ∧ Rp K G' v r.d := by
  unfold RR at h
  split at h
  · obtain ⟨p, vs, ds, rfl, e1, h1, h2, h3, h4, h5⟩ := h
    refine ⟨upd G p (.lst vs), s.freeze h3 h1 h2 h5, same_upd h1, ?_⟩
    rw [e1]
    exact .lst (.of upd_same) (h4.up (same_upd h1))
  · exact ⟨G, s, .refl _, h⟩
theorem OR.up {G' : Hp} {v : V} {o : OV} (h : OR K σ G v o) (s : Same G G') : OR K σ G' v o := by
  cases o with
  | sl i => exact h
  | vl d => exact Rp.up h s
theorem ORs.up {G' : Hp} : ∀ {vs : List V} {os : List OV}, ORs K σ G vs os → Same G G' → ORs K σ G' vs os
  | _, _, .nil, _ => .nil
  | _, _, .cons h t, s => .cons (h.up s) (t.up s)
theorem SR.der (s : SR K F B σ H e G) {v : V} {o : OV} (h : OR K σ G v o) {P : PyData → En → Prop} {W : Exn → En → Prop} (k : Ok (Ev.der o) e P W) : ∃ d, Dw K G H v d ∧ P d e := by
  cases o with
  | vl d => exact ⟨d, .inl h, k⟩
  | sl i =>
    obtain ⟨d, hd, k⟩ := ok_derS.mp (show Ok (derS i) e P W from k)
    have h' : σ[i]? = some (some v) := h
    unfold slotD at hd
    split at hd
    · rename_i d' q
      cases hd
      obtain ⟨w, h1, h2⟩ := s.vls i d q
      rw [h1] at h'
      cases h'
      exact ⟨d, .inl h2, k⟩
    · rename_i b ds q
      cases hd
      obtain ⟨p, vs, h1, h2, h3, h4, h5, h6⟩ := s.ows i b ds q
      rw [h1] at h'
      cases h'
      exact ⟨.list ds, .inr ⟨p, vs, ds, rfl, rfl, h4, h5⟩, k⟩
    · cases hd
theorem SR.ders (s : SR K F B σ H e G) : ∀ {vs : List V} {os : List OV} {P : List PyData → En → Prop} {W : Exn → En → Prop}, ORs K σ G vs os → Ok (Ev.ders os) e P W → ∃ ds, Dws K G H vs ds ∧ P ds e
  | _, _, _, _, .nil, k => ⟨[], .nil, k⟩
  | _, _, P, W, .cons h t, k => by
    obtain ⟨d, h1, k1⟩ := s.der h (ok_bind.mp k)
    obtain ⟨ds, h2, k2⟩ := s.ders t (ok_bind.mp k1)
    exact ⟨d :: ds, .cons h1 h2, k2⟩
end

/-! ### the readings of this language -/
section
variable (K : PySem.W.Frag) (mg : Str → Option Value) (W : WX)
/-- what is wanted of an exception -/
def WE (F : Hp) (B : List (Nat × Addr)) (G : Hp) : Exn → En → Prop := fun x e' => ∀ C v dx σ' H' G', mg x.name = some (.ref C) → SR K F B σ' H' e' G' → Same G G' → H' dx = some (.xd [(Str.ofString "value", v)]) → Rp K G' v x.arg → W (.ref C) (some dx) σ' H'
def tV (m : M RV) : TE := fun σ H Q => ∃ e G F B, SR K F B σ H e G ∧ Ok m e (fun r e' => ∀ v H' G', SR K F B σ H' e' G' → Same G G' → RR K F σ H' e' G' v r → Q v H') (WE K mg W F B G)
def tO (m : M OV) : TE := fun σ H Q => ∃ e G F B, SR K F B σ H e G ∧ Ok m e (fun r e' => ∀ v H' G', SR K F B σ H' e' G' → Same G G' → OR K σ G' v r → Q v H') (WE K mg W F B G)
def tOs (m : M (List OV)) : TA := fun σ H Q => ∃ e G F B, SR K F B σ H e G ∧ Ok m e (fun r e' => ∀ vs H' G', SR K F B σ H' e' G' → Same G G' → ORs K σ G' vs r → Q vs H') (WE K mg W F B G)
def tBo (m : M Bool) : TT := fun σ H Q => ∃ e G F B, SR K F B σ H e G ∧ Ok m e (fun b e' => ∀ H' G', SR K F B σ H' e' G' → Same G G' → Q b H') (WE K mg W F B G)
end
section
variable {K : PySem.W.Frag} {mg : Str → Option Value} {W : WX} {F : Hp} {B : List (Nat × Addr)} {G G' : Hp} {x : Exn} {e : En}
theorem WE.up (h : WE K mg W F B G x e) (s : Same G G') : WE K mg W F B G' x e := fun C v dx σ' H' G2 a b c d f => h C v dx σ' H' G2 a b (s.trans c) d f
end
abbrev SV (X : Cx) (W : WX) (e : Expr) (m : M RV) : Prop := PE X e (tV X.K X.mg W m)
abbrev SO (X : Cx) (W : WX) (e : Expr) (m : M OV) : Prop := PE X e (tO X.K X.mg W m)
abbrev SB (X : Cx) (W : WX) (e : Expr) (m : M Bool) : Prop := PT X e (tBo X.K X.mg W m)
abbrev SA (X : Cx) (W : WX) (es : List Expr) (m : M (List OV)) : Prop := PA X es (tOs X.K X.mg W m)
theorem weakE {X : Cx} {e : Expr} {t t' : TE} (h : PE X e t) (k : ∀ σ H Q, t' σ H Q → t σ H Q) : PE X e t' := ⟨fun p s σ H Q I q => h.run p s σ H Q I (k σ H Q q)⟩
theorem weakT {X : Cx} {e : Expr} {t t' : TT} (h : PT X e t) (k : ∀ σ H Q, t' σ H Q → t σ H Q) : PT X e t' := ⟨fun p s σ H Q I q => h.run p s σ H Q I (k σ H Q q)⟩
theorem weakA {X : Cx} {e : List Expr} {t t' : TA} (h : PA X e t) (k : ∀ σ H Q, t' σ H Q → t σ H Q) : PA X e t' := ⟨fun pos p s σ H Q I q => h.run pos p s σ H Q I (k σ H Q q)⟩
theorem weakS {X : Cx} {e : Stmt} {t t' : TS} (h : PS X e t) (k : ∀ D σ H, t' D σ H → t D σ H) : PS X e t' := ⟨fun p s σ H D I q => h.run p s σ H D I (k D σ H q)⟩
theorem weakSs {X : Cx} {e : List Stmt} {t t' : TS} (h : PSs X e t) (k : ∀ D σ H, t' D σ H → t D σ H) : PSs X e t' := ⟨fun p s σ H D I q => h.run p s σ H D I (k D σ H q)⟩
theorem orE {X : Cx} {e : Expr} {t u : TE} (h : PE X e t) (k : PE X e u) : PE X e (fun σ H Q => t σ H Q ∨ u σ H Q) := ⟨fun p s σ H Q I q => q.elim (h.run p s σ H Q I) (k.run p s σ H Q I)⟩
theorem orI {X : Cx} {tg e : Expr} {t u : TI} (h : PI X tg e t) (k : PI X tg e u) : PI X tg e (fun σ H R => t σ H R ∨ u σ H R) := ⟨fun p s σ H R I q => q.elim (h.run p s σ H R I) (k.run p s σ H R I)⟩
theorem weakI {X : Cx} {tg e : Expr} {t t' : TI} (h : PI X tg e t) (k : ∀ σ H R, t' σ H R → t σ H R) : PI X tg e t' := ⟨fun p s σ H R I q => h.run p s σ H R I (k σ H R q)⟩

section
variable {X : Cx} {W : WX} {e : Expr}
/-- names, constants -/
theorem sv_var {i : Nat} (h : PE X e (tVar i)) : SV X W e (readV i) := weakE h fun σ H Q ⟨en, G, F, B, s, k⟩ => by
  unfold Ok readV at k
  cases q : en[i]? with
  | none => rw [q] at k; exact k.elim
  | some x =>
    rw [q] at k
    cases x with
    | un => exact k.elim
    | vl d =>
      obtain ⟨v, h1, h2⟩ := s.vls i d q
      exact ⟨v, h1, k v H G s (.refl _) h2⟩
    | ow b ds =>
      cases b with
      | true => exact k.elim
      | false =>
        obtain ⟨p, vs, h1, h2, h3, h4, h5, h6⟩ := s.ows i false ds q
        have hi : i < en.length := by
          rcases Nat.lt_or_ge i en.length with z | z
          · exact z
          · rw [List.getElem?_eq_none_iff.mpr z] at q; cases q
        have old : ∀ (j : Nat) (b : Bool) (es : List PyData), (en.set i (.vl (.list ds)))[j]? = some (.ow b es) → j ≠ i ∧ en[j]? = some (.ow b es) := fun j b es r => by
          by_cases hj : j = i
          · subst hj
            rw [List.getElem?_set_self hi] at r
            cases r
          · rw [List.getElem?_set_ne (Ne.symm hj)] at r
            exact ⟨hj, r⟩
        have s1 : SR X.K F B σ H (en.set i (.vl (.list ds))) (upd G p (.lst vs)) := by
          have sm := same_upd (o := HO.lst vs) h2
          refine ⟨by simpa using s.len, fun b u r => ?_, s.frm, fun a u r => ?_, fun j d r => ?_, fun j b es r => ?_, fun j l b c es fs p' r1 r2 => s.dis j l b c es fs p' (old _ _ _ r1).2 (old _ _ _ r2).2⟩
          · by_cases hb : b = p
            · subst hb; rw [upd_same] at r; rw [← r]; exact h4
            · rw [upd_ne hb] at r; exact s.sub b u r
          · rw [upd_ne (ne_of_none r h3)]
            exact s.dsj a u r
          · by_cases hj : j = i
            · subst hj
              rw [List.getElem?_set_self hi] at r
              cases r
              exact ⟨_, h1, .lst (.of upd_same) (h5.up sm)⟩
            · rw [List.getElem?_set_ne (Ne.symm hj)] at r
              obtain ⟨v, k1, k2⟩ := s.vls j d r
              exact ⟨v, k1, k2.up sm⟩
          · obtain ⟨hj, r'⟩ := old _ _ _ r
            obtain ⟨p', ws, k1, k2, k3, k4, k5, k6⟩ := s.ows j b es r'
            have ne : p' ≠ p := fun z => hj (s.dis j i b false es ds p r' q (by rw [k1, z]) h1)
            exact ⟨p', ws, k1, by rw [upd_ne ne]; exact k2, k3, k4, k5.up sm, k6⟩
        exact ⟨_, h1, k _ H _ s1 (same_upd h2) (show Rp X.K _ _ _ from .lst (.of upd_same) (h5.up (same_upd h2)))⟩
theorem so_var {i : Nat} (h : PE X e (tVar i)) : SO X W e (readO i) := weakE h fun σ H Q ⟨en, G, F, B, s, k⟩ => by
  unfold Ok readO at k
  cases q : en[i]? with
  | none => rw [q] at k; exact k.elim
  | some x =>
    rw [q] at k
    cases x with
    | un => exact k.elim
    | vl d =>
      obtain ⟨v, h1, h2⟩ := s.vls i d q
      exact ⟨v, h1, k v H G s (.refl _) h2⟩
    | ow b ds =>
      obtain ⟨p, vs, h1, _⟩ := s.ows i b ds q
      exact ⟨_, h1, k _ H G s (.refl _) h1⟩
theorem so_of {m : M RV} (h : SV X W e m) : SO X W e (toO m) := weakE h fun σ H Q ⟨en, G, F, B, s, k⟩ => by
  refine ⟨en, G, F, B, s, (ok_bind.mp k).imp (fun r e' k1 v H' G' s1 sm rr => ?_) fun _ _ x => x⟩
  obtain ⟨G2, s2, sm2, dp⟩ := rr.freeze s1
  exact k1 v H' G2 s2 (sm.trans sm2) dp
theorem sv_const {v : V} {d : PyData} (h : PE X e (tC v)) (r : ∀ G, Rp X.K G v d) : SV X W e (pure ⟨d, false⟩) := weakE h fun σ H Q ⟨en, G, F, B, s, k⟩ => k v H G s (.refl _) (r G)
/-- operand lists -/
theorem sa_nil : SA X W [] (pure []) := weakA pa_nil fun σ H Q ⟨en, G, F, B, s, k⟩ => k [] H G s (.refl _) .nil
theorem sa_cons {es : List Expr} {m : M OV} {ms : M (List OV)} (h : SO X W e m) (hs : SA X W es ms) (hst : starEach (e :: es) X.env = (false, eval e X.env) :: starEach es X.env) :
    SA X W (e :: es) (do let o ← m; let os ← ms; pure (o :: os)) := weakA (pa_cons h hs hst) fun σ H Q ⟨en, G, F, B, s, k⟩ => by
  refine ⟨en, G, F, B, s, (ok_bind.mp k).imp (fun o e1 k1 v H1 G1 s1 m1 r1 => ?_) fun _ _ x => x⟩
  refine ⟨e1, G1, F, B, s1, (ok_bind.mp k1).imp (fun os e2 k2 vs H2 G2 s2 m2 r2 => ?_) fun _ _ x => x.up m1⟩
  exact k2 (v :: vs) H2 G2 s2 (m1.trans m2) (.cons (r1.up m2) r2)
/-- tests -/
theorem sb_val {m : M RV} (h : SV X W e m) (he : ∀ whole, isTrue e X.env whole = (do let v ← whole; standAt e.pos; holding [v] (truthy v))) : SB X W e (asB m) := weakT (pt_val h he) fun σ H Q ⟨en, G, F, B, s, k⟩ => by
  refine ⟨en, G, F, B, s, (ok_bind.mp k).imp (fun r e1 k1 v H1 G1 s1 m1 r1 => ?_) fun _ _ x => x⟩
  obtain ⟨b, hb, k2⟩ := ok_liftO.mp k1
  obtain ⟨d, fr⟩ := r
  cases d <;> try cases hb
  unfold RR at r1
  cases fr with
  | true => obtain ⟨_, _, _, _, z, _⟩ := r1; cases z
  | false => cases r1; exact ⟨_, rfl, k2 H1 G1 s1 m1⟩
end
end Ev

set_option Elab.async false
set_option linter.all false
set_option maxRecDepth 100000
set_option maxHeartbeats 2000000
/-! EvC: operators by data. -/
namespace Ev
open PySem PySem.Spec L2

/-- the most items of a made list, signs of a made text -/
abbrev most : Nat := 1000000
theorem most_line {n : Nat} (h : n ≤ most) : n ≤ sizeLine := Nat.le_trans h (by decide)

/-! ### what the operators give -/
inductive Bop where | add | sub | mul | fdiv | mod | pow | shl
inductive Cop where | eq | ne | lt | le | gt | ge | isin | notin | isN | isnotN | isB | isnotB
deriving DecidableEq
@[simp] abbrev lit (d : PyData) : Option RV := some ⟨d, false⟩
def addD : PyData → PyData → Option RV
  | .int i, .int j => lit (.int (i + j))
  | .str x, .str y => if x.length + y.length ≤ most then lit (.str (x ++ y)) else none
  | .list xs, .list ys => if xs.length + ys.length ≤ most then some ⟨.list (xs ++ ys), true⟩ else none
  | .tuple xs, .tuple ys => if xs.length + ys.length ≤ most then lit (.tuple (xs ++ ys)) else none
  | _, _ => none
def subD : PyData → PyData → Option RV
  | .int i, .int j => lit (.int (i - j))
  | _, _ => none
def mulD : PyData → PyData → Option RV
  | .int i, .int j => if i.natAbs.log2 + j.natAbs.log2 < 1000000 then lit (.int (i * j)) else none
  | .list xs, .int k => if k < 1000000 ∧ -1000000 < k ∧ xs.length * k.toNat ≤ most then some ⟨.list (List.replicate k.toNat xs).flatten, true⟩ else none
  | _, _ => none
def fdivD : PyData → PyData → Option RV
  | .int i, .int j => if (j ≠ 0 ∧ j.natAbs < 1073741824) ∨ (0 < j ∧ j.natAbs.log2 < 9000) then lit (.int (i.fdiv j)) else none
  | _, _ => none
def modD : PyData → PyData → Option RV
  | .int i, .int j => if j ≠ 0 then lit (.int (i.fmod j)) else none
  | _, _ => none
def powD : PyData → PyData → Option RV
  | .int i, .int j => if 0 ≤ j ∧ j ≤ 1000000 ∧ i.natAbs < 2 ^ 64 then lit (.int (i ^ j.toNat)) else none
  | _, _ => none
def shlD : PyData → PyData → Option RV
  | .int i, .int j => if 0 ≤ j ∧ j ≤ 1000000 ∧ i.natAbs < 2 ^ 64 then lit (.int (i * 2 ^ j.toNat)) else none
  | _, _ => none
def binD : Bop → PyData → PyData → Option RV
  | .add => addD | .sub => subD | .mul => mulD | .fdiv => fdivD | .mod => modD | .pow => powD | .shl => shlD
def eqS : PyData → PyData → Option Bool
  | .str a, .str b => some (decide (a = b))
  | _, _ => none
def eqD (d e : PyData) : Option Bool := if SeqAt.shaped d = true ∧ SeqAt.shaped e = true then some (PyData.eqv d e) else eqS d e
def ltD : PyData → PyData → Option Bool
  | .int i, .int j => some (decide (i < j))
  | .tuple xs, .tuple ys => if PySem.W.alikeAll xs ys = true ∧ PyData.depthAll xs ≤ 60 then some (PySem.W.dataLt (.tuple xs) (.tuple ys)) else none
  | _, _ => none
def leD : PyData → PyData → Option Bool
  | .int i, .int j => some (decide (i ≤ j))
  | _, _ => none
def gtD : PyData → PyData → Option Bool
  | .int i, .int j => some (decide (j < i))
  | _, _ => none
def geD : PyData → PyData → Option Bool
  | .int i, .int j => some (decide (j ≤ i))
  | _, _ => none
def inD (d : PyData) : PyData → Option Bool
  | .list ds => if SeqAt.shaped d = true ∧ SeqAt.shaped (.list ds) = true then some (ds.any fun z => PyData.eqv z d) else none
  | .tuple ds => if SeqAt.shaped d = true ∧ SeqAt.shaped (.tuple ds) = true then some (ds.any fun z => PyData.eqv z d) else none
  | _ => none
def isND : PyData → PyData → Option Bool
  | .none, .none => some true
  | _, .none => some false
  | _, _ => none
def isBD : PyData → PyData → Option Bool
  | .bool a, .bool b => some (decide (a = b))
  | _, _ => none
@[simp] def cmpB : Cop → PyData → PyData → Option Bool
  | .eq, d, e => eqD d e
  | .ne, d, e => (eqD d e).map (!·)
  | .lt, d, e => ltD d e
  | .le, d, e => leD d e
  | .gt, d, e => gtD d e
  | .ge, d, e => geD d e
  | .isin, d, e => inD d e
  | .notin, d, e => (inD d e).map (!·)
  | .isN, d, e => isND d e
  | .isnotN, d, e => (isND d e).map (!·)
  | .isB, d, e => isBD d e
  | .isnotB, d, e => (isBD d e).map (!·)
@[simp] def bRV (b : Bool) : RV := ⟨.bool b, false⟩
@[simp] def cmpD (o : Cop) (d e : PyData) : Option RV := (cmpB o d e).map bRV
def idxD : PyData → PyData → Option RV
  | .list ds, .int i => (atI ds i).map fun d => ⟨d, false⟩
  | .tuple ds, .int i => (atI ds i).map fun d => ⟨d, false⟩
  | .str z, .int i => if z.length ≤ most then (atI z.cps.toList i).map fun c => ⟨.str ⟨#[c]⟩, false⟩ else none
  | _, _ => none
def cutD (xs : List PyData) (lo hi : Option Int) : List PyData := (xs.drop (HT.sIx xs.length 0 lo)).take (HT.sIx xs.length xs.length hi - HT.sIx xs.length 0 lo)
def slcD (lo hi : Option Int) : PyData → Option RV
  | .list ds => some ⟨.list (cutD ds lo hi), true⟩
  | .tuple ds => lit (.tuple (cutD ds lo hi))
  | .str z => if z.length ≤ most then lit (.str (cutS z lo hi)) else none
  | _ => none

/-! ### results -/
/-- what a rule by values owes -/
def Post (K : PySem.W.Frag) (F : Hp) (B : List (Nat × Addr)) (σ : St) (e : En) (G : Hp) (r : RV) (Q : VK) : Prop := ∀ v H' G', SR K F B σ H' e G' → Same G G' → RR K F σ H' e G' v r → Q v H'
section
variable {K : PySem.W.Frag} {F : Hp} {B : List (Nat × Addr)} {σ : St} {H : Hp} {e : En} {G : Hp} {Q : VK}
theorem Post.rp {v : V} {d : PyData} (k : Post K F B σ e G ⟨d, false⟩ Q) (s : SR K F B σ H e G) (h : Rp K G v d) : Q v H := k v H G s (.refl _) h
theorem Post.lst {vs : List V} {ds : List PyData} (k : Post K F B σ e G ⟨.list ds, true⟩ Q) (s : SR K F B σ H e G) (h : RpAll K G vs ds) {p : Addr} (hp : H p = none) : Q (.ref p) (upd H p (.lst vs)) :=
  k _ _ G (s.new hp) (.refl _) ⟨p, vs, ds, rfl, rfl, s.newG hp, s.newF hp, upd_same, h, s.newO hp⟩
theorem SR.tup (s : SR K F B σ H e G) {vs : List V} {ds : List PyData} (h : RpAll K G vs ds) {p : Addr} {o : Obj} (hp : H p = none) (ho : o.dict = none) :
    SR K F B σ (upd H p (.frz o (.tup vs))) e (upd G p (.frz o (.tup vs))) ∧ Same G (upd G p (.frz o (.tup vs))) ∧ Rp K (upd G p (.frz o (.tup vs))) (.ref p) (.tuple ds) := by
  have sm := same_upd (o := HO.frz o (.tup vs)) (s.newG hp)
  exact ⟨(s.new hp).freeze upd_same (s.newG hp) (s.newF hp) (s.newO hp), sm, .tup (.inl ⟨o, upd_same, ho⟩) (h.up sm)⟩
/-- a datum that a loop's turn hands out: pr: a pair, to be taken apart -/
def RpP (K : PySem.W.Frag) (pr : Bool) (G : Hp) (v : V) (d : PyData) : Prop := match pr with
  | true => ∃ a xs ds, v = .ref a ∧ d = .tuple ds ∧ SqT K G a xs ∧ RpAll K G xs ds
  | false => Rp K G v d
theorem SR.pair (s : SR K F B σ H e G) {vs : List V} {ds : List PyData} (h : RpAll K G vs ds) {p : Addr} (hp : H p = none) :
    SR K F B σ (upd H p (.tup vs)) e (upd G p (.tup vs)) ∧ Same G (upd G p (.tup vs)) ∧ RpP K true (upd G p (.tup vs)) (.ref p) (.tuple ds) := by
  have sm := same_upd (o := HO.tup vs) (s.newG hp)
  exact ⟨(s.new hp).freeze upd_same (s.newG hp) (s.newF hp) (s.newO hp), sm, p, vs, ds, rfl, rfl, .of upd_same, h.up sm⟩
theorem Post.tup {vs : List V} {ds : List PyData} (k : Post K F B σ e G ⟨.tuple ds, false⟩ Q) (s : SR K F B σ H e G) (h : RpAll K G vs ds) : NewT vs H Q := fun p o hp ho => by
  obtain ⟨s', sm, r⟩ := s.tup h hp ho
  exact k _ _ _ s' sm r
end
def R2ok (K : PySem.W.Frag) (r : R2) (f : PyData → PyData → Option RV) : Prop := ∀ {F : Hp} {B : List (Nat × Addr)} {σ : St} {H : Hp} {e : En} {G : Hp} {x y : V} {dx dy : PyData} {res : RV} {Q : VK},
  SR K F B σ H e G → Dw K G H x dx → Dw K G H y dy → f dx dy = some res → Post K F B σ e G res Q → r x y H Q

/-! ### rules that HandS has not in this form -/
section
variable {X : Cx} {pins : List (Addr × Obj)} {σ : St} {H : Hp} {s : Shared}
theorem lstR (I : Inv X pins σ H s) {l : Addr} {xs : List V} (h : LsR X.K H l xs) : xs.length ≤ sizeLine ∧ ∃ (its : List Value) (n : Nat), Vals xs its ∧ s.heap.get? l = some { cls := .type "list", data := .seq its.toArray n } := by
  rcases h with h | ⟨its, n, h1, h2, h3⟩
  · have q := h.ok I.hok
    obtain ⟨z, its, n, r, e⟩ := q
    exact ⟨z, its, n, r, e⟩
  · exact ⟨h3, its, n, h2, I.kIn _ _ h1⟩
/-- lists added -/
def rCatR (K : PySem.W.Frag) : R2 := fun x y H Q => ∃ l b xs zs, x = .ref l ∧ y = .ref b ∧ LsR K H l xs ∧ LsR K H b zs ∧ xs.length + zs.length ≤ sizeLine ∧ ∀ p, H p = none → Q (.ref p) (upd H p (.lst (xs ++ zs)))
theorem op_catR : OpR X (binaryOp .Add) (rCatR X.K) := by
  intro pins s σ H x y v u Q I rx ry ⟨l, b, xs, zs, ex, ey, h1, h2, hz, q⟩
  subst ex ey
  cases rx
  cases ry
  obtain ⟨z1, its1, n1, r1, e1⟩ := lstR I h1
  obtain ⟨z2, its2, n2, r2, e2⟩ := lstR I h2
  have l1 := r1.length
  have l2 := r2.length
  refine PySem.P.add_list e1 e2 ?_ (by simp only [List.size_toArray]; omega)
  rw [show its1.toArray ++ its2.toArray = (its1 ++ its2).toArray from List.append_toArray ..]
  refine ⟨.ref _, _, I.lnew (t' := s.toks) (r1.append r2) (by simp only [List.length_append]; omega), rfl, ?_⟩
  exact q _ I.fresh
/-- a list taken so many times -/
def rRepR (K : PySem.W.Frag) : R2 := fun x y H Q => ∃ l k xs, x = .ref l ∧ y = .int k ∧ LsR K H l xs ∧ -1000000 < k ∧ k < 1000000 ∧ xs.length * k.toNat ≤ most ∧ ∀ p, H p = none → Q (.ref p) (upd H p (.lst (List.replicate k.toNat xs).flatten))
theorem op_repR : OpR X (binaryOp .Mult) (rRepR X.K) := by
  intro pins s σ H x y v u Q I rx ry ⟨l, k, xs, ex, ey, h1, k1, k2, hz, q⟩
  subst ex ey
  cases rx
  obtain ⟨t, rfl⟩ := ry
  obtain ⟨z, its, n, r, e⟩ := lstR I h1
  have l1 := r.length
  have sz : its.toArray.size * k.toNat ≤ sizeLine := by
    rw [List.size_toArray, ← l1]
    exact most_line hz
  have c1 : ¬ its.toArray.size * k.toNat > (2 ^ 63 - 1) / 8 := by
    have : (sizeLine : Nat) ≤ (2 ^ 63 - 1) / 8 := by decide
    omega
  have c2 : ¬ (!Builtin.List.listFitsIndex k) = true := by
    rw [fitsIndex_both (by omega) (by omega)]
    simp
  have c3 : ¬ Builtin.List.listTooLong (its.toArray.size * k.toNat) = true := by
    rw [notLongL sz]
    simp
  have same : List.foldl (fun a b => a ++ b) #[] (List.replicate (if its.toArray.isEmpty = true then 0 else k.toNat) its.toArray) = (List.replicate k.toNat its).flatten.toArray := by
    have z0 : ∀ m : Nat, List.foldl (fun a b => a ++ b) #[] (List.replicate m its.toArray) = (List.replicate m its).flatten.toArray := fun m => by
      have w := foldl_rep its m []
      simpa using w
    rw [z0]
    cases its with
    | nil => simp
    | cons a r' => simp
  refine wpAny_binaryOp_repeat_ref (T := "list") (U := "int") (by decide) ⟨_, e, rfl⟩ (fun s' => typeIs_int s' k t) noFill_list_mul PySem.F.fills_int_mul PySem.F.slot_int_rmul repeat_list PySem.F.slot_int_index.lookup ?_
  refine call_meets PySem.F.slot_int_rmul (typeIs_int s k t) PySem.F.entry_int_rmul (PySem.F.args_int_rmul_2 _ _) (int___rmul___int_list k t l its.toArray n) ⟨e, rfl, ⟨_, e, rfl⟩, ?_⟩
  refine call_meets PySem.F.slot_list_mul ⟨_, e, rfl⟩ PySem.F.entry_list_mul (PySem.F.args_list_mul_2 _ _) (AutoListH.list___mul___list_int_3 l its.toArray n k t c2 c1 c3) ⟨e, ?_⟩
  rw [same]
  refine ⟨.ref _, _, I.lnew (t' := s.toks) (r.rep k.toNat) ?_, rfl, q _ I.fresh⟩
  rw [PyProof.Rows.lm_len_rep_flat, Nat.mul_comm]
  exact most_line hz
/-- tuples compared -/
def rLtD (K : PySem.W.Frag) : R2 := fun x y H Q => ∃ ds es, L2.Dp K H x (.tuple ds) ∧ L2.Dp K H y (.tuple es) ∧ PySem.W.alikeAll ds es = true ∧ PyData.depthAll ds ≤ 60 ∧ Q (.bl (PySem.W.dataLt (.tuple ds) (.tuple es))) H
theorem op_ltD (hu : X.A.units + 100 < cLine) : OpR X (compareOp .Lt) (rLtD X.K) := by
  intro pins s σ H x y v u Q I rx ry ⟨ds, es, hx, hy, al, dp, q⟩
  obtain ⟨as, r1⟩ := Dp.reads I _ x v hx rx
  obtain ⟨bs, r2⟩ := Dp.reads I _ y u hy ry
  have room : X.A.units + min (PyData.depth (.tuple ds)) (PyData.depth (.tuple es)) < cLine := by
    have : PyData.depth (.tuple ds) = PyData.depthAll ds + 1 := by simp only [PyData.depth]
    omega
  exact PySem.W.rcLt_alike _ _ X.A s v u as bs r1 r2 (by simpa [PySem.W.alike] using al) (by simp) room X.prog X.w X.xe _ ⟨.bl _, H, I, rfl, q⟩
/-- in a tuple -/
def rInT (K : PySem.W.Frag) (neg : Bool) : R2 := fun x y H Q => ∃ d ds, L2.Dp K H x d ∧ L2.Dp K H y (.tuple ds) ∧ SeqAt.shaped d = true ∧ SeqAt.shaped (.tuple ds) = true ∧ Q (.bl (if neg then !ds.any fun z => PyData.eqv z d else ds.any fun z => PyData.eqv z d)) H
theorem shaped_room {d c : PyData} (hd : SeqAt.shaped d = true) {n : Nat} (hu : n + 65 < cLine) {k : Nat} : n + 1 + min k d.depth < cLine := by
  have := SeqAt.depth_of_shaped hd
  have := Nat.min_le_right k d.depth
  omega
theorem op_inT (hu : X.A.units + 65 < cLine) : OpR X (compareOp .In) (rInT X.K false) := by
  intro pins s σ H x y v u Q I rx ry ⟨d, ds, hx, hy, sd, se, q⟩
  obtain ⟨as, r1⟩ := Dp.reads I _ x v hx rx
  obtain ⟨bs, r2⟩ := Dp.reads I _ y u hy ry
  exact SeqAt.in_tuple_reads r2 r1 (SeqAt.canLay_of_shaped se) (SeqAt.canLay_of_shaped sd) (shaped_room (c := d) sd hu) ⟨.bl _, H, I, rfl, q⟩
theorem op_notInT (hu : X.A.units + 65 < cLine) : OpR X (compareOp .NotIn) (rInT X.K true) := by
  intro pins s σ H x y v u Q I rx ry ⟨d, ds, hx, hy, sd, se, q⟩
  obtain ⟨as, r1⟩ := Dp.reads I _ x v hx rx
  obtain ⟨bs, r2⟩ := Dp.reads I _ y u hy ry
  exact SeqAt.notIn_tuple_reads r2 r1 (SeqAt.canLay_of_shaped se) (SeqAt.canLay_of_shaped sd) (shaped_room (c := d) sd hu) ⟨.bl _, H, I, rfl, q⟩
end
end Ev

set_option Elab.async false
set_option linter.all false
set_option maxRecDepth 100000
set_option maxHeartbeats 2000000
/-! EvD: operators of this language, over HandS. -/
namespace Ev
open PySem PySem.Spec L2

section
variable {K : PySem.W.Frag}
theorem r2_or1 {r r' : R2} {f : PyData → PyData → Option RV} (h : R2ok K r f) : R2ok K (fun x y H Q => r x y H Q ∨ r' x y H Q) f := fun s a b c d => .inl (h s a b c d)
/-- the ways of + -/
def rAdd (K : PySem.W.Frag) : R2 := fun x y H Q => rI0 (fun i j => .int (i + j)) x y H Q ∨ (fun x y H Q => ∃ i j, x = .str i ∧ y = .str j ∧ i.length + j.length ≤ sizeLine ∧ Q (.str (i ++ j)) H) x y H Q ∨ rCatR K x y H Q ∨ rCatZ K x y H Q
theorem op_addA {X : Cx} : OpR X (binaryOp .Add) (rAdd X.K) := op_add.or (op_add_str.or (op_catR.or op_catZ))
theorem ok_add : R2ok K (rAdd K) addD := by
  intro F B σ H e G x y dx dy res Q s hx hy h k
  unfold addD at h
  split at h
  · cases h
    cases hx.int; cases hy.int
    exact .inl ⟨_, _, rfl, rfl, k.rp s (.int _)⟩
  · split at h
    · rename_i z
      cases h
      cases hx.str; cases hy.str
      exact .inr (.inl ⟨_, _, rfl, rfl, most_line z, k.rp s (.str _)⟩)
    · cases h
  · split at h
    · rename_i z
      cases h
      obtain ⟨p, vs, rfl, h1, h2⟩ := hx.lst s.sub
      obtain ⟨p', vs', rfl, h1', h2'⟩ := hy.lst s.sub
      exact .inr (.inr (.inl ⟨_, _, _, _, rfl, rfl, h1, h1', by rw [h2.len, h2'.len]; exact most_line z, fun q hq => k.lst s (h2.app h2') hq⟩))
    · cases h
  · split at h
    · rename_i xs ys z
      cases h
      obtain ⟨p, vs, rfl, h1, h2⟩ := hx.tup s.sub
      obtain ⟨p', vs', rfl, h1', h2'⟩ := hy.tup s.sub
      have n1 := h2.len
      have n2 := h2'.len
      have rx : Rp K H (.ref p) (.tuple xs) := .tup h1 (h2.up s.sub)
      refine .inr (.inr (.inr ⟨_, _, _, _, rfl, rfl, h1.sqT, h1'.sqT, by rw [n1, n2]; exact most_line z, fun z1 => ?_, fun _ z1 => ?_, fun _ _ => k.tup s (h2.app h2')⟩))
      · subst z1
        cases xs with
        | cons _ _ => cases n1
        | nil =>
          rcases hy with hy | ⟨_, _, _, _, z2, _⟩
          · exact k.rp s hy
          · cases z2
      · subst z1
        cases ys with
        | cons _ _ => cases n2
        | nil =>
          rcases hx with hx | ⟨_, _, _, _, z2, _⟩
          · exact k.rp s (by rw [List.append_nil]; exact hx)
          · cases z2
    · cases h
  · cases h
theorem ok_sub : R2ok K (rI0 fun i j => .int (i - j)) subD := by
  intro F B σ H e G x y dx dy res Q s hx hy h k
  unfold subD at h
  split at h
  · cases h
    cases hx.int; cases hy.int
    exact ⟨_, _, rfl, rfl, k.rp s (.int _)⟩
  · cases h
def rMul (K : PySem.W.Frag) : R2 := fun x y H Q => rI CMulW (fun i j => .int (i * j)) x y H Q ∨ rRepR K x y H Q
theorem op_mulA {X : Cx} : OpR X (binaryOp .Mult) (rMul X.K) := op_mulW.or op_repR
theorem ok_mul : R2ok K (rMul K) mulD := by
  intro F B σ H e G x y dx dy res Q s hx hy h k
  unfold mulD at h
  split at h
  · split at h
    · rename_i z
      cases h
      cases hx.int; cases hy.int
      exact .inl ⟨_, _, rfl, rfl, z, k.rp s (.int _)⟩
    · cases h
  · split at h
    · rename_i xs n z
      cases h
      cases hy.int
      obtain ⟨p, vs, rfl, h1, h2⟩ := hx.lst s.sub
      refine .inr ⟨_, _, _, rfl, rfl, h1, z.2.1, z.1, by rw [h2.len]; exact z.2.2, fun q hq => k.lst s ?_ hq⟩
      have rep : ∀ m : Nat, RpAll K G (List.replicate m vs).flatten (List.replicate m xs).flatten := fun m => by
        induction m with
        | zero => exact .nil
        | succ m ih => rw [List.replicate_succ, List.replicate_succ, List.flatten_cons, List.flatten_cons]; exact h2.app ih
      exact rep _
    · cases h
  · cases h
def rFdiv : R2 := fun x y H Q => rI CDivN (fun i j => .int (i.fdiv j)) x y H Q ∨ rI CDivW (fun i j => .int (i / j)) x y H Q
theorem op_fdivA {X : Cx} : OpR X (binaryOp .FloorDiv) rFdiv := op_fdivN.or op_fdivW
theorem ok_fdiv : R2ok K rFdiv fdivD := by
  intro F B σ H e G x y dx dy res Q s hx hy h k
  unfold fdivD at h
  split at h
  · split at h
    · rename_i i j z
      cases h
      cases hx.int; cases hy.int
      rcases z with z | z
      · exact .inl ⟨_, _, rfl, rfl, z, k.rp s (.int _)⟩
      · refine .inr ⟨_, _, rfl, rfl, z, ?_⟩
        have := k.rp s (.int _)
        rwa [Int.fdiv_eq_ediv_of_nonneg _ (by omega)] at this
    · cases h
  · cases h
theorem ok_mod : R2ok K (rI (fun _ j => j ≠ 0) fun i j => .int (i.fmod j)) modD := by
  intro F B σ H e G x y dx dy res Q s hx hy h k
  unfold modD at h
  split at h
  · split at h
    · rename_i z
      cases h
      cases hx.int; cases hy.int
      exact ⟨_, _, rfl, rfl, z, k.rp s (.int _)⟩
    · cases h
  · cases h
theorem ok_pow : R2ok K (rI CPow fun i j => .int (i ^ j.toNat)) powD := by
  intro F B σ H e G x y dx dy res Q s hx hy h k
  unfold powD at h
  split at h
  · split at h
    · rename_i z
      cases h
      cases hx.int; cases hy.int
      exact ⟨_, _, rfl, rfl, z, k.rp s (.int _)⟩
    · cases h
  · cases h
theorem ok_shl : R2ok K (rI CPow fun i j => .int (i * 2 ^ j.toNat)) shlD := by
  intro F B σ H e G x y dx dy res Q s hx hy h k
  unfold shlD at h
  split at h
  · split at h
    · rename_i z
      cases h
      cases hx.int; cases hy.int
      exact ⟨_, _, rfl, rfl, z, k.rp s (.int _)⟩
    · cases h
  · cases h
/-! comparisons -/
theorem cmp_some {o : Cop} {d e : PyData} {r : RV} (h : cmpD o d e = some r) : ∃ b, cmpB o d e = some b ∧ r = bRV b := by
  unfold cmpD at h
  cases q : cmpB o d e with
  | none => rw [q] at h; cases h
  | some b => rw [q] at h; cases h; exact ⟨b, rfl, rfl⟩
theorem map_not {o : Option Bool} {b : Bool} (h : o.map (!·) = some b) : o = some (!b) := by
  cases o with
  | none => cases h
  | some c => cases h; simp
def rEqA (K : PySem.W.Frag) : R2 := fun x y H Q => rEq x y H Q ∨ rEqD K x y H Q
theorem op_eqA {X : Cx} (hu : X.A.units + 64 < cLine) : OpR X (compareOp .Eq) (rEqA X.K) := op_eq.or (op_eqD hu)
def rNeA (K : PySem.W.Frag) : R2 := fun x y H Q => rNe x y H Q ∨ rNeD K x y H Q
theorem op_neA {X : Cx} (hu : X.A.units + 64 < cLine) : OpR X (compareOp .NotEq) (rNeA X.K) := op_ne.or (op_neD hu)
theorem eqS_some {d e : PyData} {b : Bool} (h : eqS d e = some b) : ∃ s t : Str, d = .str s ∧ e = .str t ∧ b = decide (s = t) := by
  unfold eqS at h
  split at h
  · cases h; exact ⟨_, _, rfl, rfl, rfl⟩
  · cases h
theorem dec_strV {i j : Str} : decide (V.str i = V.str j) = decide (i = j) := by
  rw [Bool.eq_iff_iff]
  simp
theorem ok_eq : R2ok K (rEqA K) (cmpD .eq) := by
  intro F B σ H e G x y dx dy res Q s hx hy h k
  obtain ⟨b, hb, rfl⟩ := cmp_some h
  have hb : eqD dx dy = some b := hb
  unfold eqD at hb
  split at hb
  · rename_i z
    cases hb
    exact .inr ⟨dx, dy, rp_dp _ _ (hx.rp s.sub), rp_dp _ _ (hy.rp s.sub), z.1, z.2, k.rp s (.bl _)⟩
  · obtain ⟨a, c, rfl, rfl, rfl⟩ := eqS_some hb
    cases hx.str; cases hy.str
    refine .inl ⟨rfl, ?_⟩
    rw [dec_strV]
    exact k.rp s (.bl _)
theorem ok_ne : R2ok K (rNeA K) (cmpD .ne) := by
  intro F B σ H e G x y dx dy res Q s hx hy h k
  obtain ⟨b, hb, rfl⟩ := cmp_some h
  have hb : eqD dx dy = some (!b) := map_not hb
  unfold eqD at hb
  split at hb
  · rename_i z
    refine .inr ⟨dx, dy, rp_dp _ _ (hx.rp s.sub), rp_dp _ _ (hy.rp s.sub), z.1, z.2, ?_⟩
    have e2 : b = !PyData.eqv dx dy := by
      have := Option.some.inj hb
      rw [this]; simp
    rw [← e2]
    exact k.rp s (.bl _)
  · obtain ⟨a, c, rfl, rfl, e2⟩ := eqS_some hb
    cases hx.str; cases hy.str
    refine .inl ⟨rfl, ?_⟩
    rw [dec_strV, ← e2]
    have : (!!b) = b := by simp
    rw [this]
    exact k.rp s (.bl _)
def rLt (K : PySem.W.Frag) : R2 := fun x y H Q => rI0 (fun i j => .bl (decide (i < j))) x y H Q ∨ rLtD K x y H Q
theorem op_ltA {X : Cx} (hu : X.A.units + 100 < cLine) : OpR X (compareOp .Lt) (rLt X.K) := op_lt.or (op_ltD hu)
theorem ok_lt : R2ok K (rLt K) (cmpD .lt) := by
  intro F B σ H e G x y dx dy res Q s hx hy h k
  obtain ⟨b, hb, rfl⟩ := cmp_some h
  have hb : ltD dx dy = some b := hb
  unfold ltD at hb
  split at hb
  · cases hb
    cases hx.int; cases hy.int
    exact .inl ⟨_, _, rfl, rfl, k.rp s (.bl _)⟩
  · split at hb
    · rename_i z
      cases hb
      exact .inr ⟨_, _, rp_dp _ _ (hx.rp s.sub), rp_dp _ _ (hy.rp s.sub), z.1, z.2, k.rp s (.bl _)⟩
    · cases hb
  · cases hb
theorem ok_le : R2ok K (rI0 fun i j => .bl (decide (i ≤ j))) (cmpD .le) := by
  intro F B σ H e G x y dx dy res Q s hx hy h k
  obtain ⟨b, hb, rfl⟩ := cmp_some h
  have hb : leD dx dy = some b := hb
  unfold leD at hb
  split at hb
  · cases hb
    cases hx.int; cases hy.int
    exact ⟨_, _, rfl, rfl, k.rp s (.bl _)⟩
  · cases hb
theorem ok_gt : R2ok K (rI0 fun i j => .bl (decide (j < i))) (cmpD .gt) := by
  intro F B σ H e G x y dx dy res Q s hx hy h k
  obtain ⟨b, hb, rfl⟩ := cmp_some h
  have hb : gtD dx dy = some b := hb
  unfold gtD at hb
  split at hb
  · cases hb
    cases hx.int; cases hy.int
    exact ⟨_, _, rfl, rfl, k.rp s (.bl _)⟩
  · cases hb
theorem ok_ge : R2ok K (rI0 fun i j => .bl (decide (j ≤ i))) (cmpD .ge) := by
  intro F B σ H e G x y dx dy res Q s hx hy h k
  obtain ⟨b, hb, rfl⟩ := cmp_some h
  have hb : geD dx dy = some b := hb
  unfold geD at hb
  split at hb
  · cases hb
    cases hx.int; cases hy.int
    exact ⟨_, _, rfl, rfl, k.rp s (.bl _)⟩
  · cases hb
def rInA (K : PySem.W.Frag) : R2 := fun x y H Q => rInD K x y H Q ∨ rInT K false x y H Q
def rNotInA (K : PySem.W.Frag) : R2 := fun x y H Q => rNotInD K x y H Q ∨ rInT K true x y H Q
theorem op_inA {X : Cx} (hu : X.A.units + 65 < cLine) : OpR X (compareOp .In) (rInA X.K) := (op_inD hu).or (op_inT hu)
theorem op_notInA {X : Cx} (hu : X.A.units + 65 < cLine) : OpR X (compareOp .NotIn) (rNotInA X.K) := (op_notInD hu).or (op_notInT hu)
theorem ok_in : R2ok K (rInA K) (cmpD .isin) := by
  intro F B σ H e G x y dx dy res Q s hx hy h k
  obtain ⟨b, hb, rfl⟩ := cmp_some h
  have hb : inD dx dy = some b := hb
  unfold inD at hb
  split at hb
  · split at hb
    · rename_i z
      cases hb
      exact .inl ⟨_, _, rp_dp _ _ (hx.rp s.sub), rp_dp _ _ (hy.rp s.sub), z.1, z.2, k.rp s (.bl _)⟩
    · cases hb
  · split at hb
    · rename_i z
      cases hb
      exact .inr ⟨_, _, rp_dp _ _ (hx.rp s.sub), rp_dp _ _ (hy.rp s.sub), z.1, z.2, k.rp s (.bl _)⟩
    · cases hb
  · cases hb
theorem ok_notin : R2ok K (rNotInA K) (cmpD .notin) := by
  intro F B σ H e G x y dx dy res Q s hx hy h k
  obtain ⟨b, hb, rfl⟩ := cmp_some h
  have hb : inD dx dy = some (!b) := map_not hb
  unfold inD at hb
  split at hb
  · split at hb
    · rename_i ds z
      refine .inl ⟨_, _, rp_dp _ _ (hx.rp s.sub), rp_dp _ _ (hy.rp s.sub), z.1, z.2, ?_⟩
      rw [Option.some.inj hb]
      simp only [Bool.not_not]
      exact k.rp s (.bl _)
    · cases hb
  · split at hb
    · rename_i ds z
      refine .inr ⟨_, _, rp_dp _ _ (hx.rp s.sub), rp_dp _ _ (hy.rp s.sub), z.1, z.2, ?_⟩
      rw [Option.some.inj hb]
      simp only [Bool.not_not]
      exact k.rp s (.bl _)
    · cases hb
  · cases hb
theorem Dw.ne_non {G H : Hp} {x : V} {d : PyData} (h : Dw K G H x d) (n : d ≠ .none) : x ≠ .non := by
  rcases h with h | ⟨_, _, _, rfl, _⟩
  · cases h <;> simp_all
  · simp
theorem isND_some {d e : PyData} {b : Bool} (h : isND d e = some b) {G H : Hp} {x y : V} (hx : Dw K G H x d) (hy : Dw K G H y e) : y = .non ∧ b = decide (x = .non) := by
  unfold isND at h
  split at h
  · cases h
    cases hx.non
    exact ⟨hy.non, rfl⟩
  · rename_i n
    cases h
    refine ⟨hy.non, ?_⟩
    rw [decide_eq_false (hx.ne_non fun z => by subst z; exact n rfl)]
  · cases h
theorem ok_isN : R2ok K (fun x y H Q => y = .non ∧ Q (.bl (decide (x = .non))) H) (cmpD .isN) := by
  intro F B σ H e G x y dx dy res Q s hx hy h k
  obtain ⟨b, hb, rfl⟩ := cmp_some h
  obtain ⟨h1, h2⟩ := isND_some hb hx hy
  exact ⟨h1, by rw [← h2]; exact k.rp s (.bl _)⟩
theorem ok_isnotN : R2ok K (fun x y H Q => y = .non ∧ Q (.bl (!decide (x = .non))) H) (cmpD .isnotN) := by
  intro F B σ H e G x y dx dy res Q s hx hy h k
  obtain ⟨b, hb, rfl⟩ := cmp_some h
  obtain ⟨h1, h2⟩ := isND_some (map_not hb) hx hy
  exact ⟨h1, by rw [← h2, Bool.not_not]; exact k.rp s (.bl _)⟩
theorem ok_isB : R2ok K (fun x y H Q => ∃ a b, x = .bl a ∧ y = .bl b ∧ Q (.bl (decide (a = b))) H) (cmpD .isB) := by
  intro F B σ H e G x y dx dy res Q s hx hy h k
  obtain ⟨b, hb, rfl⟩ := cmp_some h
  have hb : isBD dx dy = some b := hb
  unfold isBD at hb
  split at hb
  · cases hb
    cases hx.bl; cases hy.bl
    exact ⟨_, _, rfl, rfl, k.rp s (.bl _)⟩
  · cases hb
theorem ok_isnotB : R2ok K (fun x y H Q => ∃ a b, x = .bl a ∧ y = .bl b ∧ Q (.bl (!decide (a = b))) H) (cmpD .isnotB) := by
  intro F B σ H e G x y dx dy res Q s hx hy h k
  obtain ⟨b, hb, rfl⟩ := cmp_some h
  have hb : isBD dx dy = some (!b) := map_not hb
  unfold isBD at hb
  split at hb
  · rename_i a c
    cases hx.bl; cases hy.bl
    refine ⟨_, _, rfl, rfl, ?_⟩
    rw [Option.some.inj hb, Bool.not_not]
    exact k.rp s (.bl _)
  · cases hb
theorem ixN_get {n : Nat} {i : Int} {j : Nat} (h : ixN n i = some j) : j < n := (ixN_seq h).2.1
theorem atI_rp {G : Hp} {vs : List V} {ds : List PyData} {i : Int} {d : PyData} (h : RpAll K G vs ds) (e : atI ds i = some d) : ∃ v, atI vs i = some v ∧ Rp K G v d := by
  unfold atI at e ⊢
  rw [h.len]
  cases q : ixN ds.length i with
  | none => rw [q] at e; cases e
  | some j =>
    rw [q] at e
    exact h.get e
theorem ok_idx : R2ok K (rIx K) idxD := by
  intro F B σ H e G x y dx dy res Q s hx hy h k
  unfold idxD at h
  split at h
  · rename_i ds i
    cases q : atI ds i with
    | none => rw [q] at h; cases h
    | some d =>
      rw [q] at h; cases h
      cases hy.int
      obtain ⟨p, vs, rfl, h1, h2⟩ := hx.lst s.sub
      obtain ⟨v, h3, h4⟩ := atI_rp h2 q
      exact .inl ⟨_, _, _, _, rfl, rfl, h1.sqL, h3, k.rp s h4⟩
  · rename_i ds i
    cases q : atI ds i with
    | none => rw [q] at h; cases h
    | some d =>
      rw [q] at h; cases h
      cases hy.int
      obtain ⟨p, vs, rfl, h1, h2⟩ := hx.tup s.sub
      obtain ⟨v, h3, h4⟩ := atI_rp h2 q
      exact .inr (.inl ⟨_, _, _, _, rfl, rfl, h1.sqT, h3, k.rp s h4⟩)
  · rename_i z i
    split at h
    · rename_i zl
      cases q : atI z.cps.toList i with
      | none => rw [q] at h; cases h
      | some d =>
        rw [q] at h; cases h
        cases hy.int
        cases hx.str
        exact .inr (.inr ⟨_, _, _, rfl, rfl, most_line zl, q, k.rp s (.str _)⟩)
    · cases h
  · cases h
end

/-! ### operators on operands -/
@[simp] def op2 (f : PyData → PyData → Option RV) (ma mb : M OV) : M RV := do
  let x ← ma
  let y ← mb
  let d ← der x
  let e ← der y
  liftO (f d e)
section
variable {X : Cx} {W : WX} {a b c : Expr} {ma mb mc : M OV} {pos : Pos}
theorem t_op2 {r : R2} {f : PyData → PyData → Option RV} (h : R2ok X.K r f) {σ : St} {H : Hp} {Q : VK} (q : tV X.K X.mg W (op2 f ma mb) σ H Q) : tOp r (tO X.K X.mg W ma) (tO X.K X.mg W mb) σ H Q := by
  obtain ⟨e, G, F, B, s, k⟩ := q
  refine ⟨e, G, F, B, s, (ok_bind.mp k).imp (fun ox e1 k1 x H1 G1 s1 m1 r1 => ?_) fun _ _ w => w⟩
  refine ⟨e1, G1, F, B, s1, (ok_bind.mp k1).imp (fun oy e2 k2 y H2 G2 s2 m2 r2 => ?_) fun _ _ w => w.up m1⟩
  obtain ⟨dx, hx, k3⟩ := s2.der (r1.up m2) (ok_bind.mp k2)
  obtain ⟨dy, hy, k4⟩ := s2.der r2 (ok_bind.mp k3)
  obtain ⟨res, hr, k5⟩ := ok_liftO.mp k4
  exact h s2 hx hy hr fun v H' G' s' m' rr => k5 v H' G' s' ((m1.trans m2).trans m') rr
theorem sv_bin {op : Operator} {r : R2} {f : PyData → PyData → Option RV} (ho : OpR X (binaryOp op) r) (h : R2ok X.K r f) (ha : SO X W a ma) (hb : SO X W b mb) : SV X W (.BinOp a op b pos) (op2 f ma mb) :=
  weakE (pe_op ho ha hb) fun σ H Q q => t_op2 h q
theorem sv_cmp {op : CmpOp} {r : R2} {f : PyData → PyData → Option RV} (ho : OpR X (compareOp op) r) (h : R2ok X.K r f) (ha : SO X W a ma) (hb : SO X W b mb) (hm : behindInMarks op b = false) : SV X W (.Compare a [op] [b] pos) (op2 f ma mb) :=
  weakE (pe_cmpR ho ha hb hm) fun σ H Q q => t_op2 h q
theorem sv_idx (ha : SO X W a ma) (hb : SO X W b mb) (hs : PlainIx b) : SV X W (.Subscript a b pos) (op2 idxD ma mb) :=
  weakE (pe_ix ix_seq ha hb hs) fun σ H Q q => t_op2 ok_idx q
/-- a test by its value, for comparisons -/
theorem tB_of {t : TE} {m : M RV} (h : ∀ σ H Q, tV X.K X.mg W m σ H Q → t σ H Q) {σ : St} {H : Hp} {Q : Bool → Hp → Prop} (q : tBo X.K X.mg W (asB m) σ H Q) : tB t σ H Q := by
  obtain ⟨e, G, F, B, s, k⟩ := q
  refine h σ H _ ⟨e, G, F, B, s, (ok_bind.mp k).imp (fun r e1 k1 v H1 G1 s1 m1 r1 => ?_) fun _ _ w => w⟩
  obtain ⟨b, hb, k2⟩ := ok_liftO.mp k1
  obtain ⟨d, fr⟩ := r
  cases d <;> try cases hb
  unfold RR at r1
  cases fr with
  | true => obtain ⟨_, _, _, _, z, _⟩ := r1; cases z
  | false => cases r1; exact ⟨_, rfl, k2 H1 G1 s1 m1⟩
theorem sb_cmp {op : CmpOp} {r : R2} {f : PyData → PyData → Option RV} (ho : OpR X (compareOp op) r) (h : R2ok X.K r f) (ha : SO X W a ma) (hb : SO X W b mb) (hm : behindInMarks op b = false) : SB X W (.Compare a [op] [b] pos) (asB (op2 f ma mb)) :=
  weakT (pt_cmpR ho ha hb hm) fun σ H Q q => tB_of (fun σ H Q q => t_op2 h q) q
/-- a < b < c -/
@[simp] def op3 (f g : PyData → PyData → Option RV) (ma mb mc : M OV) : M RV := do
  let x ← ma
  let y ← mb
  let d ← der x
  let e ← der y
  let r ← liftO (f d e)
  let t ← liftO (isB r.d)
  if t then do
    let z ← mc
    let e' ← der y
    let c ← der z
    liftO (g e' c)
  else pure ⟨.bool false, false⟩
theorem t_op3 {r r' : R2} {f g : PyData → PyData → Option RV} (h : R2ok X.K r f) (h' : R2ok X.K r' g) {σ : St} {H : Hp} {Q : VK} (q : tV X.K X.mg W (op3 f g ma mb mc) σ H Q) :
    tChain r r' (tO X.K X.mg W ma) (tO X.K X.mg W mb) (tO X.K X.mg W mc) σ H Q := by
  obtain ⟨e, G, F, B, s, k⟩ := q
  refine ⟨e, G, F, B, s, (ok_bind.mp k).imp (fun ox e1 k1 x H1 G1 s1 m1 r1 => ?_) fun _ _ w => w⟩
  refine ⟨e1, G1, F, B, s1, (ok_bind.mp k1).imp (fun oy e2 k2 y H2 G2 s2 m2 r2 => ?_) fun _ _ w => w.up m1⟩
  obtain ⟨dx, hx, k3⟩ := s2.der (r1.up m2) (ok_bind.mp k2)
  obtain ⟨dy, hy, k4⟩ := s2.der r2 (ok_bind.mp k3)
  obtain ⟨res, hr, k5⟩ := ok_liftO.mp (ok_bind.mp k4)
  obtain ⟨t, ht, k6⟩ := ok_liftO.mp (ok_bind.mp k5)
  refine h s2 hx hy hr fun v H3 G3 s3 m3 rr => ?_
  obtain ⟨d, fr⟩ := res
  cases d <;> try cases ht
  unfold RR at rr
  cases fr with
  | true => obtain ⟨_, _, _, _, z, _⟩ := rr; cases z
  | false =>
    cases rr
    refine ⟨t, rfl, ?_⟩
    have m123 := (m1.trans m2).trans m3
    cases t with
    | false => exact k6 _ H3 G3 s3 m123 (.bl _)
    | true =>
      refine ⟨e2, G3, F, B, s3, (ok_bind.mp k6).imp (fun oz e3 k7 z H4 G4 s4 m4 r4 => ?_) fun _ _ w => w.up m123⟩
      obtain ⟨dy', hy', k8⟩ := s4.der (r2.up (m3.trans m4)) (ok_bind.mp k7)
      obtain ⟨dz, hz, k9⟩ := s4.der r4 (ok_bind.mp k8)
      obtain ⟨res', hr', k10⟩ := ok_liftO.mp k9
      exact h' s4 hy' hz hr' fun v H' G' s' m' rr => k10 v H' G' s' ((m123.trans m4).trans m') rr
theorem sv_chain {op op' : CmpOp} {r r' : R2} {f g : PyData → PyData → Option RV} (ho : OpR X (compareOp op) r) (ho' : OpR X (compareOp op') r') (h : R2ok X.K r f) (h' : R2ok X.K r' g) (ha : SO X W a ma) (hb : SO X W b mb) (hc : SO X W c mc)
    (hm : lastMarks [op, op'] [b, c] = false) : SV X W (.Compare a [op, op'] [b, c] pos) (op3 f g ma mb mc) :=
  weakE (pe_chain ho ho' ha hb hc hm) fun σ H Q q => t_op3 h h' q
theorem sb_chain {op op' : CmpOp} {r r' : R2} {f g : PyData → PyData → Option RV} (ho : OpR X (compareOp op) r) (ho' : OpR X (compareOp op') r') (h : R2ok X.K r f) (h' : R2ok X.K r' g) (ha : SO X W a ma) (hb : SO X W b mb) (hc : SO X W c mc)
    (hm : lastMarks [op, op'] [b, c] = false) : SB X W (.Compare a [op, op'] [b, c] pos) (asB (op3 f g ma mb mc)) :=
  weakT (pt_chain ho ho' ha hb hc hm) fun σ H Q q => tB_of (fun σ H Q q => t_op3 h h' q) q
/-! and, or, not, if -/
@[simp] def andM (ma mb : M Bool) : M Bool := do
  let b ← ma
  if b then mb else pure false
@[simp] def orM (ma mb : M Bool) : M Bool := do
  let b ← ma
  if b then pure true else mb
@[simp] def notM (ma : M Bool) : M Bool := do
  let b ← ma
  pure (!b)
@[simp] def ofB (m : M Bool) : M RV := do
  let b ← m
  pure ⟨.bool b, false⟩
@[simp] def iteM {α : Type} (mc : M Bool) (ma mb : M α) : M α := do
  let b ← mc
  if b then ma else mb
variable {na nb nc : M Bool} {va vb : M RV} {rest : List Expr}
theorem t_and {σ : St} {H : Hp} {Q : Bool → Hp → Prop} (q : tBo X.K X.mg W (andM na nb) σ H Q) : tAnd (tBo X.K X.mg W na) (tBo X.K X.mg W nb) σ H Q := by
  obtain ⟨e, G, F, B, s, k⟩ := q
  refine ⟨e, G, F, B, s, (ok_bind.mp k).imp (fun b e1 k1 H1 G1 s1 m1 => ?_) fun _ _ w => w⟩
  cases b with
  | true => exact iteT ⟨e1, G1, F, B, s1, Ok.imp (show Ok nb e1 _ _ from k1) (fun b e2 k2 H2 G2 s2 m2 => k2 H2 G2 s2 (m1.trans m2)) fun _ _ w => w.up m1⟩
  | false => exact iteF (k1 H1 G1 s1 m1)
theorem t_or {σ : St} {H : Hp} {Q : Bool → Hp → Prop} (q : tBo X.K X.mg W (orM na nb) σ H Q) : tOr (tBo X.K X.mg W na) (tBo X.K X.mg W nb) σ H Q := by
  obtain ⟨e, G, F, B, s, k⟩ := q
  refine ⟨e, G, F, B, s, (ok_bind.mp k).imp (fun b e1 k1 H1 G1 s1 m1 => ?_) fun _ _ w => w⟩
  cases b with
  | false => exact iteF ⟨e1, G1, F, B, s1, Ok.imp (show Ok nb e1 _ _ from k1) (fun b e2 k2 H2 G2 s2 m2 => k2 H2 G2 s2 (m1.trans m2)) fun _ _ w => w.up m1⟩
  | true => exact iteT (k1 H1 G1 s1 m1)
theorem sb_not (ha : SB X W a na) : SB X W (.UnaryOp .Not a pos) (notM na) := weakT (pt_not ha) fun σ H Q ⟨e, G, F, B, s, k⟩ =>
  ⟨e, G, F, B, s, (ok_bind.mp k).imp (fun b e1 k1 H1 G1 s1 m1 => k1 H1 G1 s1 m1) fun _ _ w => w⟩
/-- a test whatever its whole is -/
abbrev SW (X : Cx) (W : WX) (e : Expr) (m : M Bool) : Prop := PW X e (tBo X.K X.mg W m)
theorem weakW {e : Expr} {t t' : TT} (h : PW X e t) (k : ∀ σ H Q, t' σ H Q → t σ H Q) : PW X e t' := ⟨fun wh p s σ H Q I q => h.run wh p s σ H Q I (k σ H Q q)⟩
theorem sw_and (ha : SB X W a na) (hb : SW X W (.BoolOp .And (b :: rest) pos) nb) : SW X W (.BoolOp .And (a :: b :: rest) pos) (andM na nb) := weakW (pw_and ha hb) fun _ _ _ q => t_and q
theorem sw_or (ha : SB X W a na) (hb : SW X W (.BoolOp .Or (b :: rest) pos) nb) : SW X W (.BoolOp .Or (a :: b :: rest) pos) (orM na nb) := weakW (pw_or ha hb) fun _ _ _ q => t_or q
/-- as values -/
theorem bl_of {m : M Bool} {σ : St} {H : Hp} {Q : VK} (q : tV X.K X.mg W (ofB m) σ H Q) : ∃ e G F B, SR X.K F B σ H e G ∧ Ok m e (fun b e' => ∀ H' G', SR X.K F B σ H' e' G' → Same G G' → Q (.bl b) H') (WE X.K X.mg W F B G) := by
  obtain ⟨e, G, F, B, s, k⟩ := q
  exact ⟨e, G, F, B, s, (ok_bind.mp k).imp (fun b e1 k1 H1 G1 s1 m1 => k1 _ H1 G1 s1 m1 (.bl b)) fun _ _ w => w⟩
theorem sv_and (ha : SV X W a (ofB na)) (hb : SV X W (.BoolOp .And (b :: rest) pos) (ofB nb)) : SV X W (.BoolOp .And (a :: b :: rest) pos) (ofB (andM na nb)) := weakE (pe_and ha hb) fun σ H Q q => by
  obtain ⟨e, G, F, B, s, k⟩ := bl_of q
  refine ⟨e, G, F, B, s, ok_bind.mpr ((ok_bind.mp k).imp (fun b e1 k1 v H1 G1 s1 m1 rr => ?_) fun _ _ w => w)⟩
  cases rr
  refine ⟨_, rfl, ?_⟩
  cases b with
  | false => exact iteF (k1 H1 G1 s1 m1)
  | true => exact iteT ⟨e1, G1, F, B, s1, ok_bind.mpr (Ok.imp (show Ok nb e1 _ _ from k1) (fun b e2 k2 v H2 G2 s2 m2 rr => by cases rr; exact k2 H2 G2 s2 (m1.trans m2)) fun _ _ w => w.up m1)⟩
theorem sv_or (ha : SV X W a (ofB na)) (hb : SV X W (.BoolOp .Or (b :: rest) pos) (ofB nb)) : SV X W (.BoolOp .Or (a :: b :: rest) pos) (ofB (orM na nb)) := weakE (pe_or ha hb) fun σ H Q q => by
  obtain ⟨e, G, F, B, s, k⟩ := bl_of q
  refine ⟨e, G, F, B, s, ok_bind.mpr ((ok_bind.mp k).imp (fun b e1 k1 v H1 G1 s1 m1 rr => ?_) fun _ _ w => w)⟩
  cases rr
  refine ⟨_, rfl, ?_⟩
  cases b with
  | true => exact iteT (k1 H1 G1 s1 m1)
  | false => exact iteF ⟨e1, G1, F, B, s1, ok_bind.mpr (Ok.imp (show Ok nb e1 _ _ from k1) (fun b e2 k2 v H2 G2 s2 m2 rr => by cases rr; exact k2 H2 G2 s2 (m1.trans m2)) fun _ _ w => w.up m1)⟩
theorem sv_not (ha : SV X W a (ofB na)) : SV X W (.UnaryOp .Not a pos) (ofB (notM na)) := weakE (pe_not ha) fun σ H Q q => by
  obtain ⟨e, G, F, B, s, k⟩ := bl_of q
  refine ⟨e, G, F, B, s, ok_bind.mpr ((ok_bind.mp k).imp (fun b e1 k1 v H1 G1 s1 m1 rr => ?_) fun _ _ w => w)⟩
  cases rr
  exact ⟨_, rfl, k1 H1 G1 s1 m1⟩
theorem sv_asB {m : M RV} (h : SV X W a m) : SV X W a (ofB (asB m)) := weakE h fun σ H Q q => by
  obtain ⟨e, G, F, B, s, k⟩ := bl_of q
  refine ⟨e, G, F, B, s, (ok_bind.mp k).imp (fun r e1 k1 v H1 G1 s1 m1 rr => ?_) fun _ _ w => w⟩
  obtain ⟨b, hb, k2⟩ := ok_liftO.mp k1
  obtain ⟨d, fr⟩ := r
  cases d <;> try cases hb
  unfold RR at rr
  cases fr with
  | true => obtain ⟨_, _, _, _, z, _⟩ := rr; cases z
  | false => cases rr; exact k2 H1 G1 s1 m1
theorem sv_ite (hc : SB X W c nc) (ha : SV X W a va) (hb : SV X W b vb) : SV X W (.IfExp c a b pos) (iteM nc va vb) := weakE (pe_ifExp hc ha hb) fun σ H Q ⟨e, G, F, B, s, k⟩ => by
  refine ⟨e, G, F, B, s, (ok_bind.mp k).imp (fun b e1 k1 H1 G1 s1 m1 => ?_) fun _ _ w => w⟩
  cases b with
  | true => exact iteT ⟨e1, G1, F, B, s1, Ok.imp (show Ok va e1 _ _ from k1) (fun r e2 k2 v H2 G2 s2 m2 rr => k2 v H2 G2 s2 (m1.trans m2) rr) fun _ _ w => w.up m1⟩
  | false => exact iteF ⟨e1, G1, F, B, s1, Ok.imp (show Ok vb e1 _ _ from k1) (fun r e2 k2 v H2 G2 s2 m2 rr => k2 v H2 G2 s2 (m1.trans m2) rr) fun _ _ w => w.up m1⟩
/-- -a -/
def negD : PyData → Option RV
  | .int i => lit (.int (-i))
  | _ => none
@[simp] def op1 (f : PyData → Option RV) (ma : M OV) : M RV := do
  let x ← ma
  let d ← der x
  liftO (f d)
theorem sv_neg (ha : SO X W a ma) : SV X W (.UnaryOp .USub a pos) (op1 negD ma) := weakE (pe_un un_neg ha) fun σ H Q ⟨e, G, F, B, s, k⟩ => by
  refine ⟨e, G, F, B, s, (ok_bind.mp k).imp (fun ox e1 k1 x H1 G1 s1 m1 r1 => ?_) fun _ _ w => w⟩
  obtain ⟨dx, hx, k3⟩ := s1.der r1 (ok_bind.mp k1)
  obtain ⟨res, hr, k5⟩ := ok_liftO.mp k3
  unfold negD at hr
  split at hr
  · cases hr
    cases hx.int
    exact ⟨_, rfl, k5 _ H1 G1 s1 m1 (.int _)⟩
  · cases hr
end
end Ev

set_option Elab.async false
set_option linter.all false
set_option maxRecDepth 100000
set_option maxHeartbeats 2000000
/-! EvE: displays, built-in functions. -/
namespace Ev
open PySem PySem.Spec L2

/-! ### rows of values that are given away -/
def tVs (K : PySem.W.Frag) (mg : Str → Option Value) (W : WX) (m : M (List PyData)) : TA := fun σ H Q => ∃ e G F B, SR K F B σ H e G ∧ Ok m e (fun ds e' => ∀ vs H' G', SR K F B σ H' e' G' → Same G G' → RpAll K G' vs ds → Q vs H') (WE K mg W F B G)
abbrev SVs (X : Cx) (W : WX) (es : List Expr) (m : M (List PyData)) : Prop := PA X es (tVs X.K X.mg W m)
@[simp] def valM (m : M RV) : M PyData := do
  let r ← m
  pure r.d
section
variable {X : Cx} {W : WX} {e : Expr} {es : List Expr} {pos : Pos}
theorem svs_nil : SVs X W [] (pure []) := weakA pa_nil fun σ H Q ⟨en, G, F, B, s, k⟩ => k [] H G s (.refl _) .nil
theorem svs_cons {m : M RV} {ms : M (List PyData)} (h : SV X W e m) (hs : SVs X W es ms) (hst : starEach (e :: es) X.env = (false, eval e X.env) :: starEach es X.env) :
    SVs X W (e :: es) (do let d ← valM m; let ds ← ms; pure (d :: ds)) := weakA (pa_cons h hs hst) fun σ H Q ⟨en, G, F, B, s, k⟩ => by
  refine ⟨en, G, F, B, s, (ok_bind.mp (ok_bind.mp k)).imp (fun r e1 k1 v H1 G1 s1 m1 r1 => ?_) fun _ _ x => x⟩
  obtain ⟨G2, s2, m2, r2⟩ := r1.freeze s1
  refine ⟨e1, G2, F, B, s2, (ok_bind.mp k1).imp (fun os e2 k2 vs H3 G3 s3 m3 r3 => ?_) fun _ _ x => x.up (m1.trans m2)⟩
  exact k2 (v :: vs) H3 G3 s3 ((m1.trans m2).trans m3) (.cons (r2.up m3) r3)
@[simp] def tupM (ms : M (List PyData)) : M RV := do
  let ds ← ms
  liftO (if ds.length ≤ most then lit (.tuple ds) else none)
@[simp] def lstM (ms : M (List PyData)) : M RV := do
  let ds ← ms
  liftO (if ds.length ≤ most then some ⟨.list ds, true⟩ else none)
theorem sv_tup {k : Nat} {ms : M (List PyData)} (h : SVs X W es ms) : SV X W (.Tuple es k pos) (tupM ms) := weakE (pe_tupZ h) fun σ H Q ⟨en, G, F, B, s, k⟩ => by
  refine ⟨en, G, F, B, s, (ok_bind.mp k).imp (fun ds e1 k1 vs H1 G1 s1 m1 r1 => ?_) fun _ _ x => x⟩
  obtain ⟨res, hr, k2⟩ := ok_liftO.mp k1
  split at hr
  · rename_i z
    cases hr
    refine ⟨by rw [r1.len]; exact most_line z, fun p o hp ho => ?_⟩
    obtain ⟨s2, m2, r2⟩ := s1.tup r1 hp ho
    exact k2 _ _ _ s2 (m1.trans m2) r2
  · cases hr
theorem sv_lst {ms : M (List PyData)} (h : SVs X W es ms) : SV X W (.List es pos) (lstM ms) := weakE (pe_lst h) fun σ H Q ⟨en, G, F, B, s, k⟩ => by
  refine ⟨en, G, F, B, s, (ok_bind.mp k).imp (fun ds e1 k1 vs H1 G1 s1 m1 r1 => ?_) fun _ _ x => x⟩
  obtain ⟨res, hr, k2⟩ := ok_liftO.mp k1
  split at hr
  · rename_i z
    cases hr
    refine ⟨by rw [r1.len]; exact most_line z, fun p hp => ?_⟩
    exact k2 _ _ G1 (s1.new hp) m1 ⟨p, vs, ds, rfl, rfl, s1.newG hp, s1.newF hp, upd_same, r1, s1.newO hp⟩
  · cases hr
end

/-! ### built-in functions, by values -/
def RLok (K : PySem.W.Frag) (r : List V → Hp → VK → Prop) (f : List PyData → Option RV) : Prop := ∀ {F : Hp} {B : List (Nat × Addr)} {σ : St} {H : Hp} {e : En} {G : Hp} {xs : List V} {ds : List PyData} {res : RV} {Q : VK},
  SR K F B σ H e G → Dws K G H xs ds → f ds = some res → Post K F B σ e G res Q → r xs H Q
@[simp] def opL (f : List PyData → Option RV) (ms : M (List OV)) : M RV := do
  let os ← ms
  let ds ← ders os
  liftO (f ds)
section
variable {X : Cx} {W : WX} {e : Expr} {es : List Expr} {pos p : Pos} {x : Str} {id T : String}
theorem t_opL {r : List V → Hp → VK → Prop} {f : List PyData → Option RV} {ms : M (List OV)} (h : RLok X.K r f) {σ : St} {H : Hp} {Q : VK} (q : tV X.K X.mg W (opL f ms) σ H Q) : tCB r (tOs X.K X.mg W ms) σ H Q := by
  obtain ⟨en, G, F, B, s, k⟩ := q
  refine ⟨en, G, F, B, s, (ok_bind.mp k).imp (fun os e1 k1 vs H1 G1 s1 m1 r1 => ?_) fun _ _ w => w⟩
  obtain ⟨ds, hd, k2⟩ := s1.ders r1 (ok_bind.mp k1)
  obtain ⟨res, hr, k3⟩ := ok_liftO.mp k2
  exact h s1 hd hr fun v H' G' s' m' rr => k3 v H' G' s' (m1.trans m') rr
theorem sv_callB {r : List V → Hp → VK → Prop} {f : List PyData → Option RV} {ms : M (List OV)} (h : RLok X.K r f) (hc : CallR X (.builtin id) r) (hg : Gl X x) (hm : X.mg x = none) (hv : bootBuiltins x = some (.builtin id)) (ha : SA X W (e :: es) ms)
    (hn : x ≠ "__name__") (hdb : (x == ("__debug__" : Str)) = false) (he : starEach (e :: es) X.env = (false, eval e X.env) :: starEach es X.env) (hpl : (backTo pos (starEach es X.env)).any (·.1) = false) :
    SV X W (.Call (.Name x p) (e :: es) [] pos) (opL f ms) := weakE (pe_callB hc hg hm hv ha hn hdb he hpl) fun σ H Q q => t_opL h q
theorem sv_callT {r : List V → Hp → VK → Prop} {f : List PyData → Option RV} {ms : M (List OV)} (h : RLok X.K r f) (hc : CallR X (.type T) r) (hg : Gl X x) (hm : X.mg x = none) (hv : bootBuiltins x = some (.type T)) (ha : SA X W (e :: es) ms)
    (hn : x ≠ "__name__") (hdb : (x == ("__debug__" : Str)) = false) (he : starEach (e :: es) X.env = (false, eval e X.env) :: starEach es X.env) (hpl : (backTo pos (starEach es X.env)).any (·.1) = false) :
    SV X W (.Call (.Name x p) (e :: es) [] pos) (opL f ms) := weakE (pe_callTy hc hg hm hv ha hn hdb he hpl) fun σ H Q q => t_opL h q
end
theorem dws1 {K : PySem.W.Frag} {G H : Hp} {xs : List V} {d : PyData} (h : Dws K G H xs [d]) : ∃ x, xs = [x] ∧ Dw K G H x d := by
  cases h with
  | cons h t => cases t; exact ⟨_, rfl, h⟩
theorem dws2 {K : PySem.W.Frag} {G H : Hp} {xs : List V} {d e : PyData} (h : Dws K G H xs [d, e]) : ∃ x y, xs = [x, y] ∧ Dw K G H x d ∧ Dw K G H y e := by
  cases h with
  | cons h t =>
    obtain ⟨y, rfl, hy⟩ := dws1 t
    exact ⟨_, y, rfl, h, hy⟩
def boolsOf : List PyData → Option (List Bool)
  | [] => some []
  | .bool b :: ds => (boolsOf ds).map (b :: ·)
  | _ => none
def intsOf : List PyData → Option (List Int)
  | [] => some []
  | .int b :: ds => (intsOf ds).map (b :: ·)
  | _ => none
theorem boolsOf_map : ∀ bs : List Bool, boolsOf (bs.map PyData.bool) = some bs
  | [] => rfl
  | b :: bs => by simp [boolsOf, boolsOf_map bs]
theorem intsOf_map : ∀ bs : List Int, intsOf (bs.map PyData.int) = some bs
  | [] => rfl
  | b :: bs => by simp [intsOf, intsOf_map bs]
theorem boolsOf_eq : ∀ {ds : List PyData} {bs : List Bool}, boolsOf ds = some bs → ds = bs.map PyData.bool
  | [], bs, h => by cases h; rfl
  | d :: ds, bs, h => by
    cases d <;> try cases h
    rename_i b
    cases q : boolsOf ds with
    | none => simp [boolsOf, q] at h
    | some cs =>
      simp [boolsOf, q] at h
      subst h
      rw [boolsOf_eq q, List.map_cons]
theorem intsOf_eq : ∀ {ds : List PyData} {bs : List Int}, intsOf ds = some bs → ds = bs.map PyData.int
  | [], bs, h => by cases h; rfl
  | d :: ds, bs, h => by
    cases d <;> try cases h
    rename_i b
    cases q : intsOf ds with
    | none => simp [intsOf, q] at h
    | some cs =>
      simp [intsOf, q] at h
      subst h
      rw [intsOf_eq q, List.map_cons]
def lenF : List PyData → Option RV
  | [.list ds] => lit (.int ds.length)
  | [.tuple ds] => lit (.int ds.length)
  | [.str z] => if z.length ≤ most then lit (.int z.length) else none
  | _ => none
def absF : List PyData → Option RV
  | [.int i] => lit (.int (if i < 0 then -i else i))
  | _ => none
def maxOf : List Int → Int → Int
  | [], m => m
  | n :: ns, m => maxOf ns (if n > m then n else m)
def minOf : List Int → Int → Int
  | [], m => m
  | n :: ns, m => minOf ns (if n < m then n else m)
def maxF : List PyData → Option RV
  | [.int i, .int j] => lit (.int (if j > i then j else i))
  | [.list ds] => match intsOf ds with
    | some (n :: ns) => lit (.int (maxOf ns n))
    | _ => none
  | _ => none
def minF : List PyData → Option RV
  | [.int i, .int j] => lit (.int (if j < i then j else i))
  | [.list ds] => match intsOf ds with
    | some (n :: ns) => lit (.int (minOf ns n))
    | _ => none
  | _ => none
def tupleF : List PyData → Option RV
  | [.list ds] => lit (.tuple ds)
  | [.tuple ds] => lit (.tuple ds)
  | _ => none
def listF : List PyData → Option RV
  | [.list ds] => some ⟨.list ds, true⟩
  | [.tuple ds] => some ⟨.list ds, true⟩
  | _ => none
def anyF : List PyData → Option RV
  | [.list ds] => (boolsOf ds).map fun bs => ⟨.bool (bs.any id), false⟩
  | _ => none
def allF : List PyData → Option RV
  | [.list ds] => (boolsOf ds).map fun bs => ⟨.bool (bs.all id), false⟩
  | _ => none
def sumF : List PyData → Option RV
  | [.list ds] => (intsOf ds).map fun ns => ⟨.int ns.sum, false⟩
  | _ => none
def intF : List PyData → Option RV
  | [.int i] => lit (.int i)
  | [.bool b] => lit (.int (if b then 1 else 0))
  | _ => none
def reprF : List PyData → Option RV
  | [d] => if d.showable = true ∧ d.depth ≤ 60 ∧ d.shown.length ≤ most then lit (.str d.shown) else none
  | _ => none
def alikeL (ds : List PyData) : Bool := ds.all fun d => ds.all fun e => PySem.W.alike d e
def sortL (ds : List PyData) : List PyData := ds.mergeSort (PySem.W.dataLe false id)
def notBare : PyData → Bool
  | .none => false
  | .tuple [] => false
  | .tuple _ => true
  | _ => true
def isTupD : PyData → Bool
  | .tuple _ => true
  | _ => false
def sortable (ds : List PyData) : Bool := ds.all notBare && (ds.all isTupD || ds.all (!isTupD ·))
def sortedF : List PyData → Option RV
  | [.list ds] => if alikeL ds = true ∧ sortable ds = true ∧ ds.length ≤ most ∧ PyData.depthAll ds ≤ 60 then some ⟨.list (sortL ds), true⟩ else none
  | _ => none
section
variable {K : PySem.W.Frag}
theorem ok_len : RLok K (fun xs H Q => (∃ p ys, xs = [.ref p] ∧ (SqL K H p ys ∨ SqT K H p ys) ∧ Q (.int ys.length) H) ∨ (∃ z, xs = [.str z] ∧ z.length ≤ sizeLine ∧ Q (.int z.length) H)) lenF := by
  intro F B σ H e G xs ds res Q s hd h k
  unfold lenF at h
  split at h
  · cases h
    obtain ⟨x, rfl, hx⟩ := dws1 hd
    obtain ⟨p, vs, rfl, h1, h2⟩ := hx.lst s.sub
    exact .inl ⟨p, vs, rfl, .inl h1.sqL, by rw [h2.len]; exact k.rp s (.int _)⟩
  · cases h
    obtain ⟨x, rfl, hx⟩ := dws1 hd
    obtain ⟨p, vs, rfl, h1, h2⟩ := hx.tup s.sub
    exact .inl ⟨p, vs, rfl, .inr h1.sqT, by rw [h2.len]; exact k.rp s (.int _)⟩
  · split at h
    · rename_i zl
      cases h
      obtain ⟨x, rfl, hx⟩ := dws1 hd
      cases hx.str
      exact .inr ⟨_, rfl, most_line zl, k.rp s (.int _)⟩
    · cases h
  · cases h
theorem ok_abs : RLok K (fun xs H Q => ∃ i, xs = [.int i] ∧ Q (.int (if i < 0 then -i else i)) H) absF := by
  intro F B σ H e G xs ds res Q s hd h k
  unfold absF at h
  split at h
  · cases h
    obtain ⟨x, rfl, hx⟩ := dws1 hd
    cases hx.int
    exact ⟨_, rfl, k.rp s (.int _)⟩
  · cases h
theorem maxOf_mem : ∀ (ns : List Int) (m : Int), (maxOf ns m = m ∨ maxOf ns m ∈ ns) ∧ m ≤ maxOf ns m ∧ ∀ y ∈ ns, y ≤ maxOf ns m
  | [], m => ⟨.inl rfl, Int.le_refl _, by simp⟩
  | n :: ns, m => by
    obtain ⟨h1, h2, h3⟩ := maxOf_mem ns (if n > m then n else m)
    unfold maxOf
    refine ⟨?_, ?_, fun y hy => ?_⟩
    · rcases h1 with h1 | h1
      · rw [h1]; split <;> simp
      · exact .inr (List.mem_cons_of_mem _ h1)
    · refine Int.le_trans ?_ h2
      split <;> omega
    · rcases List.mem_cons.mp hy with rfl | hy
      · refine Int.le_trans ?_ h2
        split <;> omega
      · exact h3 y hy
theorem minOf_mem : ∀ (ns : List Int) (m : Int), (minOf ns m = m ∨ minOf ns m ∈ ns) ∧ minOf ns m ≤ m ∧ ∀ y ∈ ns, minOf ns m ≤ y
  | [], m => ⟨.inl rfl, Int.le_refl _, by simp⟩
  | n :: ns, m => by
    obtain ⟨h1, h2, h3⟩ := minOf_mem ns (if n < m then n else m)
    unfold minOf
    refine ⟨?_, ?_, fun y hy => ?_⟩
    · rcases h1 with h1 | h1
      · rw [h1]; split <;> simp
      · exact .inr (List.mem_cons_of_mem _ h1)
    · refine Int.le_trans h2 ?_
      split <;> omega
    · rcases List.mem_cons.mp hy with rfl | hy
      · refine Int.le_trans h2 ?_
        split <;> omega
      · exact h3 y hy
theorem ok_max : RLok K (fun xs H Q => (∃ i j, xs = [.int i, .int j] ∧ Q (.int (if j > i then j else i)) H) ∨ rMax K xs H Q) maxF := by
  intro F B σ H e G xs ds res Q s hd h k
  unfold maxF at h
  split at h
  · cases h
    obtain ⟨x, y, rfl, hx, hy⟩ := dws2 hd
    cases hx.int; cases hy.int
    exact .inl ⟨_, _, rfl, k.rp s (.int _)⟩
  · split at h
    · rename_i n ns q
      cases h
      obtain ⟨x, rfl, hx⟩ := dws1 hd
      obtain ⟨p, vs, rfl, h1, h2⟩ := hx.lst s.sub
      have e1 := intsOf_eq q
      subst e1
      have e2 := h2.ints
      subst e2
      refine .inr ⟨p, _, rfl, h1.sqL, by simp, fun m hm hmax => ?_⟩
      have q2 := maxOf_mem ns n
      have : m = maxOf ns n := by
        have a1 : m ≤ maxOf ns n := by
          rcases List.mem_cons.mp hm with rfl | hm
          · exact q2.2.1
          · exact q2.2.2 m hm
        have a2 : maxOf ns n ≤ m := by
          rcases q2.1 with z | z
          · rw [z]; exact hmax n List.mem_cons_self
          · exact hmax _ (List.mem_cons_of_mem _ z)
        omega
      subst this
      exact k.rp s (.int _)
    · cases h
  · cases h
theorem ok_min : RLok K (fun xs H Q => (∃ i j, xs = [.int i, .int j] ∧ Q (.int (if j < i then j else i)) H) ∨ rMin K xs H Q) minF := by
  intro F B σ H e G xs ds res Q s hd h k
  unfold minF at h
  split at h
  · cases h
    obtain ⟨x, y, rfl, hx, hy⟩ := dws2 hd
    cases hx.int; cases hy.int
    exact .inl ⟨_, _, rfl, k.rp s (.int _)⟩
  · split at h
    · rename_i n ns q
      cases h
      obtain ⟨x, rfl, hx⟩ := dws1 hd
      obtain ⟨p, vs, rfl, h1, h2⟩ := hx.lst s.sub
      have e1 := intsOf_eq q
      subst e1
      have e2 := h2.ints
      subst e2
      refine .inr ⟨p, _, rfl, h1.sqL, by simp, fun m hm hmin => ?_⟩
      have q2 := minOf_mem ns n
      have : m = minOf ns n := by
        have a1 : minOf ns n ≤ m := by
          rcases List.mem_cons.mp hm with rfl | hm
          · exact q2.2.1
          · exact q2.2.2 m hm
        have a2 : m ≤ minOf ns n := by
          rcases q2.1 with z | z
          · rw [z]; exact hmin n List.mem_cons_self
          · exact hmin _ (List.mem_cons_of_mem _ z)
        omega
      subst this
      exact k.rp s (.int _)
    · cases h
  · cases h
theorem ok_tuple : RLok K (rTupleZ K) tupleF := by
  intro F B σ H e G xs ds res Q s hd h k
  unfold tupleF at h
  split at h
  · cases h
    obtain ⟨x, rfl, hx⟩ := dws1 hd
    obtain ⟨p, vs, rfl, h1, h2⟩ := hx.lst s.sub
    exact ⟨p, vs, rfl, .inl ⟨h1.sqL, k.tup s h2⟩⟩
  · cases h
    obtain ⟨x, rfl, hx⟩ := dws1 hd
    rcases hx with hx | ⟨_, _, _, _, z, _⟩
    · cases hx with
      | tup h1 h2 => exact ⟨_, _, rfl, .inr ⟨(h1.same s.sub).sqT, k.rp s (.tup h1 h2)⟩⟩
    · cases z
  · cases h
theorem ok_list : RLok K (fun xs H Q => ∃ p ys, xs = [.ref p] ∧ (SqL K H p ys ∨ SqT K H p ys) ∧ ∀ l, H l = none → Q (.ref l) (upd H l (.lst ys))) listF := by
  intro F B σ H e G xs ds res Q s hd h k
  unfold listF at h
  split at h
  · cases h
    obtain ⟨x, rfl, hx⟩ := dws1 hd
    obtain ⟨p, vs, rfl, h1, h2⟩ := hx.lst s.sub
    exact ⟨p, vs, rfl, .inl h1.sqL, fun l hl => k.lst s h2 hl⟩
  · cases h
    obtain ⟨x, rfl, hx⟩ := dws1 hd
    obtain ⟨p, vs, rfl, h1, h2⟩ := hx.tup s.sub
    exact ⟨p, vs, rfl, .inr h1.sqT, fun l hl => k.lst s h2 hl⟩
  · cases h
theorem ok_any : RLok K (rAny K) anyF := by
  intro F B σ H e G xs ds res Q s hd h k
  unfold anyF at h
  split at h
  · rename_i ds
    cases q : boolsOf ds with
    | none => rw [q] at h; cases h
    | some bs =>
      rw [q] at h; cases h
      obtain ⟨x, rfl, hx⟩ := dws1 hd
      obtain ⟨p, vs, rfl, h1, h2⟩ := hx.lst s.sub
      have e1 := boolsOf_eq q
      subst e1
      have e2 := h2.bls
      subst e2
      exact ⟨p, bs, rfl, h1.sqL, k.rp s (.bl _)⟩
  · cases h
theorem ok_all : RLok K (rAll K) allF := by
  intro F B σ H e G xs ds res Q s hd h k
  unfold allF at h
  split at h
  · rename_i ds
    cases q : boolsOf ds with
    | none => rw [q] at h; cases h
    | some bs =>
      rw [q] at h; cases h
      obtain ⟨x, rfl, hx⟩ := dws1 hd
      obtain ⟨p, vs, rfl, h1, h2⟩ := hx.lst s.sub
      have e1 := boolsOf_eq q
      subst e1
      have e2 := h2.bls
      subst e2
      exact ⟨p, bs, rfl, h1.sqL, k.rp s (.bl _)⟩
  · cases h
theorem ok_sum : RLok K (rSum K) sumF := by
  intro F B σ H e G xs ds res Q s hd h k
  unfold sumF at h
  split at h
  · rename_i ds
    cases q : intsOf ds with
    | none => rw [q] at h; cases h
    | some bs =>
      rw [q] at h; cases h
      obtain ⟨x, rfl, hx⟩ := dws1 hd
      obtain ⟨p, vs, rfl, h1, h2⟩ := hx.lst s.sub
      have e1 := intsOf_eq q
      subst e1
      have e2 := h2.ints
      subst e2
      exact ⟨p, bs, rfl, h1.sqL, k.rp s (.int _)⟩
  · cases h
theorem ok_int : RLok K (fun xs H Q => (∃ i, xs = [.int i] ∧ Q (.int i) H) ∨ ∃ k, xs = [.bl k] ∧ Q (.int (if k then 1 else 0)) H) intF := by
  intro F B σ H e G xs ds res Q s hd h k
  unfold intF at h
  split at h
  · cases h
    obtain ⟨x, rfl, hx⟩ := dws1 hd
    cases hx.int
    exact .inl ⟨_, rfl, k.rp s (.int _)⟩
  · cases h
    obtain ⟨x, rfl, hx⟩ := dws1 hd
    cases hx.bl
    exact .inr ⟨_, rfl, k.rp s (.int _)⟩
  · cases h
/-- repr of data -/
def rRepr (K : PySem.W.Frag) : List V → Hp → VK → Prop := fun xs H Q => ∃ x d, xs = [x] ∧ L2.Dp K H x d ∧ d.showable = true ∧ d.depth ≤ 60 ∧ d.shown.length ≤ sizeLine ∧ Q (.str d.shown) H
theorem noDict_dp {H : Hp} : ∀ (d : PyData) (v : V), L2.Dp K H v d → d.hasDict = false
  | .none, _, _ => rfl
  | .bool _, _, _ => rfl
  | .int _, _, _ => rfl
  | .str _, _, _ => rfl
  | .list ds, _, h => by
    cases h with
    | lst _ ha => exact all _ _ ha
  | .tuple ds, _, h => by
    cases h with
    | tup _ ha => exact all _ _ ha
  | .dict _, _, h => by cases h
where all {H : Hp} : ∀ (ds : List PyData) (vs : List V), L2.DpAll K H vs ds → PyData.hasDictAll ds = false
  | [], _, _ => rfl
  | d :: ds, _, h => by
    cases h with
    | cons h1 h2 =>
      simp only [PyData.hasDictAll, noDict_dp d _ h1, all ds _ h2, Bool.or_self]
theorem ok_repr : RLok K (rRepr K) reprF := by
  intro F B σ H e G xs ds res Q s hd h k
  unfold reprF at h
  split at h
  · split at h
    · rename_i z
      cases h
      obtain ⟨x, rfl, hx⟩ := dws1 hd
      exact ⟨x, _, rfl, rp_dp _ _ (hx.rp s.sub), z.1, z.2.1, most_line z.2.2, k.rp s (.str _)⟩
    · cases h
  · cases h
end
section
variable {X : Cx}
theorem cr_repr (hg : X.A.guards = some []) (hu : X.A.units + 100 < cLine) : CallR X (.builtin "repr") (rRepr X.K) := by
  intro pins s σ H xs us Q I r ⟨x, d, ex, hd, h1, h2, h3, q⟩
  subst ex
  obtain ⟨u, rfl, ru⟩ := Vals.one r
  cases hd with
  | non => cases ru; exact PySem.P.repr_of_none ⟨.str _, H, I.tok _, ⟨_, rfl⟩, q⟩
  | bl b =>
    cases ru
    refine PySem.P.repr_of_bool ⟨.str _, H, I.tok _, ⟨_, rfl⟩, ?_⟩
    simpa [PyData.shown] using q
  | int i =>
    obtain ⟨t, rfl⟩ := ru
    exact PySem.P.repr_of_int (by simpa [PyData.showable] using h1) ⟨.str _, H, I.tok _, ⟨_, rfl⟩, q⟩
  | str z =>
    obtain ⟨t, rfl⟩ := ru
    exact PySem.P.repr_of_str ⟨.str _, H, I.tok _, ⟨_, rfl⟩, q⟩ h3
  | lst hs ha =>
    have hd : L2.Dp X.K H _ _ := .lst hs ha
    have nd := noDict_dp _ _ hd
    obtain ⟨as, rd⟩ := Dp.reads I _ _ u hd ru
    cases ru
    exact repr_of_reads' rd h1 (PyData.noDict_hsm nd) hg (by omega) (fun _ _ z => z) (fun h' u tk hk => ⟨.str _, H, I.kept hk, ⟨_, rfl⟩, q⟩) h3
  | tup hs ha =>
    have hd : L2.Dp X.K H _ _ := .tup hs ha
    have nd := noDict_dp _ _ hd
    obtain ⟨as, rd⟩ := Dp.reads I _ _ u hd ru
    cases ru
    exact repr_of_reads' rd h1 (PyData.noDict_hsm nd) hg (by omega) (fun _ _ z => z) (fun h' u tk hk => ⟨.str _, H, I.kept hk, ⟨_, rfl⟩, q⟩) h3
/-- isinstance -/
def rIsA (K : PySem.W.Frag) (T : String) (f : PyData → Bool) : List V → Hp → VK → Prop := fun xs H Q => ∃ x d, xs = [x, .ty T] ∧ L2.Dp K H x d ∧ Q (.bl (f d)) H
theorem cr_isA {T : String} {f : PyData → Bool} (h : ∀ {prog : Program} {w : World} {A : Around} {E : Value → Shared → Prop} {s : Shared} {v : Value} {d : PyData} {as : List Addr} {Q : Value → Shared → Prop}, Reads s.heap v d as →
      (∀ tk, s.toks ≤ tk → Q (.bool (f d)) { s with toks := tk }) → wpAny (model prog w) A (call (.builtin "isinstance") [v, .type T]) Q E s) : CallR X (.builtin "isinstance") (rIsA X.K T f) := by
  intro pins s σ H xs us Q I r ⟨x, d, ex, hd, q⟩
  subst ex
  obtain ⟨u, u2, rfl, ru, ru2⟩ := Vals.two r
  cases ru2
  obtain ⟨as, rd⟩ := Dp.reads I _ _ u hd ru
  exact h rd fun tk _ => ⟨.bl _, H, I.tok _, rfl, q⟩
end
end Ev

set_option Elab.async false
set_option linter.all false
set_option maxRecDepth 100000
set_option maxHeartbeats 2000000
/-! EvF: sorted, slices, isinstance. -/
namespace Ev
open PySem PySem.Spec L2

/-! ### sorted -/
def leP (a b : V × PyData) : Bool := PySem.W.dataLe false (fun p : V × PyData => p.2) a b
def rSortA (K : PySem.W.Frag) : List V → Hp → VK → Prop := fun xs H Q => ∃ p vs ds, xs = [.ref p] ∧ LsR K H p vs ∧ L2.DpAll K H vs ds ∧ PySem.W.AllAlike ds ∧ PySem.W.Sortable ds ∧ ds.length ≤ sizeLine ∧ PyData.depthAll ds ≤ 60 ∧
  ∀ l, H l = none → Q (.ref l) (upd H l (.lst (((vs.zip ds).mergeSort leP).map (·.1))))
theorem depthAll_mem : ∀ {ds : List PyData} {d : PyData}, d ∈ ds → d.depth ≤ PyData.depthAll ds
  | [], _, h => by cases h
  | x :: xs, d, h => by
    simp only [PyData.depthAll]
    rcases List.mem_cons.mp h with rfl | h
    · exact Nat.le_max_left _ _
    · exact Nat.le_trans (depthAll_mem h) (Nat.le_max_right _ _)
theorem dpAll_len {K : PySem.W.Frag} {H : Hp} : ∀ {vs : List V} {ds : List PyData}, L2.DpAll K H vs ds → vs.length = ds.length
  | _, _, .nil => rfl
  | _, _, .cons _ t => by simp [dpAll_len t]
theorem zip_snd {α β : Type} : ∀ {vs : List α} {ds : List β}, vs.length = ds.length → (vs.zip ds).map (·.2) = ds
  | [], [], _ => rfl
  | _ :: _, [], h => by cases h
  | [], _ :: _, h => by cases h
  | _ :: vs, _ :: ds, h => by simp [zip_snd (vs := vs) (ds := ds) (by simpa using h)]
section
variable {X : Cx}
theorem each_vals {K : PySem.W.Frag} {H : Hp} : ∀ {vs : List V} {ds : List PyData} {us : List Value}, L2.DpAll K H vs ds → Vals vs us → PySem.W.EachIs (fun (v : Value) (b : V × PyData) => RelV b.1 v) us (vs.zip ds)
  | _, _, _, .nil, .nil => .nil
  | _, _, _, .cons _ t, .cons r rs => .cons r (each_vals t rs)
theorem each_reads {pins : List (Addr × Obj)} {σ : St} {H : Hp} {s : Shared} (I : Inv X pins σ H s) : ∀ {vs : List V} {ds : List PyData} {us : List Value}, L2.DpAll X.K H vs ds → Vals vs us →
    PySem.W.EachIs (fun (v : Value) (b : V × PyData) => ∃ as, Reads s.heap v b.2 as) us (vs.zip ds)
  | _, _, _, .nil, .nil => .nil
  | _, _, _, .cons h t, .cons r rs => .cons (Dp.reads I _ _ _ h r) (each_reads I t rs)
theorem each_back : ∀ {out : List Value} {bs : List (V × PyData)}, PySem.W.EachIs (fun (v : Value) (b : V × PyData) => RelV b.1 v) out bs → Vals (bs.map (·.1)) out
  | _, _, .nil => .nil
  | _, _, .cons h t => .cons h (each_back t)
theorem cr_sortA (hu : X.A.units + 100 < cLine) : CallR X (.builtin "sorted") (rSortA X.K) := by
  intro pins s σ H xs us Q I r ⟨p, vs, ds, ex, hp, hd, al, so, hl, dp, q⟩
  subst ex
  rw [Vals.ref1 r]
  obtain ⟨z, its, n, rv, e⟩ := lstR I hp
  have ln := dpAll_len hd
  have es : (vs.zip ds).map (fun p : V × PyData => p.2) = ds := zip_snd ln
  have lz : (vs.zip ds).length = ds.length := by rw [List.length_zip, ln, Nat.min_self]
  have pl : s.heap.IsList p its.toArray := ⟨_, e, rfl, n, rfl⟩
  refine PySem.W.sorted_data (enc := fun p : V × PyData => p.2) pl (each_vals hd rv) (each_reads I hd rv) (by rw [es]; exact al) (by rw [es]; exact so) (by rw [lz]; exact hl) (fun b hb => ?_) fun out ho eo => ?_
  · have : b.2 ∈ ds := by rw [← es]; exact List.mem_map_of_mem hb
    have := depthAll_mem this
    omega
  · obtain ⟨ep, at1⟩ := PyProof.Rows.sortedAll_at s.heap its out.toArray
    have rv2 := each_back eo
    have len2 : (((vs.zip ds).mergeSort leP).map (·.1)).length ≤ sizeLine := by
      rw [List.length_map, List.length_mergeSort, lz]
      exact hl
    refine ⟨.ref _, upd H (s.heap.objs.size + 1) (.lst (((vs.zip ds).mergeSort leP).map (·.1))), I.laid (t' := s.toks) (fun _ _ => PyProof.Rows.sortedAll_old) (Nat.le_succ _) ⟨len2, out, ep, rv2, at1⟩, rfl, ?_⟩
    exact q _ (I.hok.fresh (Nat.le_succ _))
end
theorem alikeL_ok {ds : List PyData} (h : alikeL ds = true) : PySem.W.AllAlike ds := fun d hd e he => by
  unfold alikeL at h
  exact List.all_eq_true.mp (List.all_eq_true.mp h d hd) e he
theorem sortable_ok {ds : List PyData} (h : sortable ds = true) : PySem.W.Sortable ds := by
  unfold sortable at h
  obtain ⟨h1, h2⟩ := Bool.and_eq_true_iff.mp h
  rcases Bool.or_eq_true_iff.mp h2 with h2 | h2
  · refine .inl fun d hd => ?_
    have a := List.all_eq_true.mp h1 d hd
    have b := List.all_eq_true.mp h2 d hd
    cases d <;> simp [isTupD] at b
    rename_i l
    cases l with
    | nil => simp [notBare] at a
    | cons x r => exact ⟨x, r, rfl⟩
  · refine .inr fun d hd => ?_
    have a := List.all_eq_true.mp h1 d hd
    have b := List.all_eq_true.mp h2 d hd
    cases d <;> simp_all [isTupD, notBare]
theorem rpAll_of {K : PySem.W.Frag} {G : Hp} : ∀ {zs : List (V × PyData)}, (∀ z ∈ zs, Rp K G z.1 z.2) → RpAll K G (zs.map (·.1)) (zs.map (·.2))
  | [], _ => .nil
  | z :: zs, h => .cons (h z List.mem_cons_self) (rpAll_of fun y hy => h y (List.mem_cons_of_mem _ hy))
theorem rpAll_zip {K : PySem.W.Frag} {G : Hp} : ∀ {vs : List V} {ds : List PyData}, RpAll K G vs ds → ∀ z ∈ vs.zip ds, Rp K G z.1 z.2
  | _, _, .nil, z, h => by cases h
  | _, _, .cons h t, z, hz => by
    rcases List.mem_cons.mp hz with rfl | hz
    · exact h
    · exact rpAll_zip t z hz
theorem ok_sorted {K : PySem.W.Frag} : RLok K (rSortA K) sortedF := by
  intro F B σ H e G xs ds res Q s hd h k
  unfold sortedF at h
  split at h
  · rename_i ds
    split at h
    · rename_i z
      cases h
      obtain ⟨x, rfl, hx⟩ := dws1 hd
      obtain ⟨p, vs, rfl, h1, h2⟩ := hx.lst s.sub
      have hm : (((vs.zip ds).mergeSort leP).map (·.2)) = sortL ds := by
        have es : (vs.zip ds).map (fun p : V × PyData => p.2) = ds := zip_snd h2.len
        have := PySem.W.sort_maps (r := leP) (s := PySem.W.dataLe false id) (fun p : V × PyData => p.2) (l := vs.zip ds) (fun _ _ _ _ => rfl)
        rw [this, es]
        rfl
      refine ⟨p, vs, ds, rfl, h1, rps_dp _ _ (h2.up s.sub), alikeL_ok z.1, sortable_ok z.2.1, most_line z.2.2.1, z.2.2.2, fun l hl => ?_⟩
      rw [← hm] at k
      refine k.lst s (rpAll_of fun y hy => rpAll_zip h2 y ?_) hl
      exact (List.mergeSort_perm _ _).mem_iff.mp hy
    · cases h
  · cases h

/-! ### isinstance with a built-in class -/
def isiF : String → PyData → Option Bool
  | "int", d => some d.isInt
  | "bool", d => some d.isBool
  | "str", d => some d.isStr
  | "tuple", d => some d.isTuple
  | "list", d => some d.isList
  | _, _ => none
def isiD (T : String) (d : PyData) : Option RV := (isiF T d).map bRV
def tyE (T : String) : TE := tC (.ty T)
section
variable {X : Cx} {W : WX} {a b : Expr} {ma : M OV} {pos p : Pos}
theorem sv_isi {T : String} {f : PyData → Bool} (hc : CallR X (.builtin "isinstance") (rIsA X.K T f)) (hf : ∀ d, isiF T d = some (f d)) (hg : Gl X "isinstance") (hm : X.mg "isinstance" = none) (ha : SO X W a ma) (hb : PE X b (tC (.ty T)))
    (h1 : starEach [a, b] X.env = (false, eval a X.env) :: starEach [b] X.env) (h2 : starEach [b] X.env = (false, eval b X.env) :: starEach [] X.env) (hpl : (backTo pos (starEach [b] X.env)).any (·.1) = false) :
    SV X W (.Call (.Name "isinstance" p) [a, b] [] pos) (op1 (isiD T) ma) :=
  weakE (pe_callB hc hg hm (by decide +kernel) (pa_cons ha (pa_cons hb pa_nil h2) h1) (by decide) (by decide) h1 hpl) fun σ H Q ⟨en, G, F, B, s, k⟩ => by
    refine ⟨en, G, F, B, s, (ok_bind.mp k).imp (fun ox e1 k1 x H1 G1 s1 m1 r1 => ?_) fun _ _ w => w⟩
    obtain ⟨dx, hx, k3⟩ := s1.der r1 (ok_bind.mp k1)
    obtain ⟨res, hr, k5⟩ := ok_liftO.mp k3
    unfold isiD at hr
    rw [hf] at hr
    cases hr
    exact ⟨x, dx, rfl, rp_dp _ _ (hx.rp s1.sub), k5 _ H1 G1 s1 m1 (.bl _)⟩
end

/-! ### slices -/
def partM : Option (M OV) → M (Option Int)
  | none => pure none
  | some m => do
    let o ← m
    let d ← der o
    let i ← liftO (match d with
      | .int i => some i
      | _ => none)
    pure (some i)
def tPr (K : PySem.W.Frag) (mg : Str → Option Value) (W : WX) (m : M (Option Int)) : TO := fun σ H Q => ∃ e G F B, SR K F B σ H e G ∧ Ok m e (fun i e' => ∀ H' G', SR K F B σ H' e' G' → Same G G' → Q i H') (WE K mg W F B G)
def slcM (ma : M OV) (ml mh : M (Option Int)) : M RV := do
  let x ← ma
  let lo ← ml
  let hi ← mh
  let d ← der x
  liftO (slcD lo hi d)
theorem weakO {X : Cx} {e : Option Expr} {t t' : TO} (h : PO X e t) (k : ∀ σ H Q, t' σ H Q → t σ H Q) : PO X e t' := ⟨fun p s σ H Q I q => h.run p s σ H Q I (k σ H Q q)⟩
section
variable {X : Cx} {W : WX} {a b : Expr} {lo hi : Option Expr} {ma : M OV} {ml mh : M (Option Int)} {pos p2 : Pos}
theorem sp_none : PO X none (tPr X.K X.mg W (partM none)) := weakO po_none fun σ H Q ⟨en, G, F, B, s, k⟩ => k H G s (.refl _)
theorem sp_some (h : SO X W a ma) : PO X (some a) (tPr X.K X.mg W (partM (some ma))) := weakO (po_some h) fun σ H Q ⟨en, G, F, B, s, k⟩ => by
  refine ⟨en, G, F, B, s, (ok_bind.mp (show Ok (do let o ← ma; let d ← der o; let i ← liftO (match d with | .int i => some i | _ => none); pure (some i)) en _ _ from k)).imp (fun o e1 k1 v H1 G1 s1 m1 r1 => ?_) fun _ _ w => w⟩
  obtain ⟨d, hd, k2⟩ := s1.der r1 (ok_bind.mp k1)
  obtain ⟨i, hi, k3⟩ := ok_liftO.mp (ok_bind.mp k2)
  split at hi
  · cases hi
    cases hd.int
    exact ⟨_, rfl, k3 H1 G1 s1 m1⟩
  · cases hi
def rSlD (K : PySem.W.Frag) : V → Option Int → Option Int → Hp → VK → Prop := fun x lo hi H Q => rSlL K x lo hi H Q ∨ rSlZ K x lo hi H Q ∨ rSlS x lo hi H Q
theorem cut_rp {K : PySem.W.Frag} {G : Hp} {vs : List V} {ds : List PyData} (h : RpAll K G vs ds) (lo hi : Option Int) : RpAll K G (cutV vs lo hi) (cutD ds lo hi) := by
  unfold cutV cutD
  rw [h.len]
  exact (h.drop _).take _
theorem sv_slc (ha : SO X W a ma) (hl : PO X lo (tPr X.K X.mg W ml)) (hh : PO X hi (tPr X.K X.mg W mh)) : SV X W (.Subscript a (.Slice lo hi none p2) pos) (slcM ma ml mh) :=
  weakE (pe_slice (sl_list.or (sl_tupZ.or sl_str)) ha hl hh) fun σ H Q ⟨en, G, F, B, s, k⟩ => by
    refine ⟨en, G, F, B, s, (ok_bind.mp k).imp (fun ox e1 k1 x H1 G1 s1 m1 r1 => ?_) fun _ _ w => w⟩
    refine ⟨e1, G1, F, B, s1, (ok_bind.mp k1).imp (fun l e2 k2 H2 G2 s2 m2 => ?_) fun _ _ w => w.up m1⟩
    refine ⟨e2, G2, F, B, s2, (ok_bind.mp k2).imp (fun h e3 k3 H3 G3 s3 m3 => ?_) fun _ _ w => w.up (m1.trans m2)⟩
    have m12 := m1.trans m2
    have m13 := m12.trans m3
    obtain ⟨d, hd, k4⟩ := s3.der (r1.up (m2.trans m3)) (ok_bind.mp k3)
    obtain ⟨res, hr, k5⟩ := ok_liftO.mp k4
    have po : Post X.K F B σ e3 G3 res Q := fun v H' G' s' m' rr => k5 v H' G' s' (m13.trans m') rr
    unfold slcD at hr
    split at hr
    · cases hr
      obtain ⟨p, vs, rfl, h1, h2⟩ := hd.lst s3.sub
      exact .inl ⟨p, vs, rfl, h1.sqL, fun q hq => po.lst s3 (cut_rp h2 _ _) hq⟩
    · rename_i ds
      cases hr
      rcases hd with hd | ⟨_, _, _, _, z, _⟩
      · cases hd with
        | tup h1 h2 =>
          rename_i p vs
          refine .inr (.inl ⟨p, vs, rfl, (h1.same s3.sub).sqT, fun z => ?_, fun _ => po.tup s3 (cut_rp h2 _ _)⟩)
          have e0 : cutD ds l h = ds := by
            have := h2.len
            unfold cutD
            rw [← this, z.1, z.2, this]
            simp
          rw [e0] at po
          exact po.rp s3 (.tup h1 h2)
      · cases z
    · split at hr
      · rename_i z zl
        cases hr
        cases hd.str
        exact .inr (.inr ⟨_, rfl, most_line zl, po.rp s3 (.str _)⟩)
      · cases hr
    · cases hr
end
end Ev

set_option Elab.async false
set_option linter.all false
set_option maxRecDepth 100000
set_option maxHeartbeats 4000000
/-! EvG: enumerate and zip over lists and tuples in any mix. -/
namespace Ev
open PySem PySem.Spec L2

/-- a list or a tuple at a -/
def SqA (K : PySem.W.Frag) (t : Bool) (H : Hp) (a : Addr) (xs : List V) : Prop := if t = true then SqT K H a xs else SqL K H a xs
def ItA (t : Bool) (h : Heap) (it a : Addr) (i : Nat) : Prop := if t = true then h.IsTupleIter it a i else h.IsListIter it a i
def IsA (t : Bool) (h : Heap) (a : Addr) (items : Array Value) : Prop := if t = true then h.IsTuple a items else h.IsList a items
def objA (t : Bool) (a : Addr) : Obj := if t = true then { cls := .type "tuple_iterator", data := .fields #[.ref a, .int 0 0] } else { cls := .type "list_iterator", data := .fields #[.ref a, .int 0 0] }
theorem drawsA {prog : Program} {w : World} {A : Around} (hh : A.handled = none) (t : Bool) (it l : Addr) (hne : l ≠ it) (items : Array Value) :
    Draws prog w A it [it, l] items.size (fun i v => items[i]? = some v) (fun i h => ItA t h it l i ∧ IsA t h l items) := by
  cases t
  · exact Draws.list hh it l hne items
  · exact Draws.tuple hh it l hne items
theorem beginsA (t : Bool) (a : Addr) (items : Array Value) : Begins (.ref a) (objA t a) fun h => IsA t h a items := by
  cases t
  · exact begins_list a items
  · exact begins_tuple a items
theorem itA_new {t : Bool} {h : Heap} {it a : Addr} (e : h.get? it = some (objA t a)) : ItA t h it a 0 := by
  cases t
  · exact ⟨_, e, rfl, rfl⟩
  · exact ⟨_, e, rfl, rfl⟩
theorem itA_obj {t : Bool} {h : Heap} {it a : Addr} {i : Nat} (e : ItA t h it a i) : ∃ o, h.get? it = some o ∧ ∀ v, o.data ≠ .cell v := by
  cases t
  · obtain ⟨o, e, _, d⟩ := e
    exact ⟨o, e, fun v z => by rw [d] at z; cases z⟩
  · obtain ⟨o, e, _, d⟩ := e
    exact ⟨o, e, fun v z => by rw [d] at z; cases z⟩
theorem itA_at {t : Bool} {h h' : Heap} {it a : Addr} {i : Nat} (e : ItA t h it a i) (k : ∀ o, h.get? it = some o → h'.get? it = some o) : ItA t h' it a i := by
  cases t
  · exact Heap.IsListIter.at e k
  · exact Heap.IsTupleIter.at e k
section
variable {X : Cx} {pins : List (Addr × Obj)} {σ : St} {H : Hp} {s : Shared} {a : Addr} {xs ys : List V}
theorem seqA (I : Inv X pins σ H s) {t : Bool} (h : SqA X.K t H a xs) : ∃ its : List Value, Vals xs its ∧ IsA t s.heap a its.toArray := by
  cases t
  · obtain ⟨its, r, p, _⟩ := I.list h
    exact ⟨its, r, p.isList⟩
  · obtain ⟨its, r, p, _⟩ := I.tuple h
    exact ⟨its, r, p⟩
theorem seqA_lt (I : Inv X pins σ H s) {t : Bool} (h : SqA X.K t H a xs) : a < s.heap.objs.size := by
  cases t
  · obtain ⟨its, r, p, _⟩ := I.list h
    exact p.lt
  · obtain ⟨its, r, ⟨o, e, _⟩, _⟩ := I.tuple h
    exact Heap.lt_size e
theorem seqA_inj (I : Inv X pins σ H s) {t : Bool} (h : SqA X.K t H a xs) (h' : SqA X.K t H a ys) : xs = ys := by
  cases t
  · exact I.list_inj h h'
  · exact I.tuple_inj h h'
theorem seqA_ne (I : Inv X pins σ H s) {t t' : Bool} {it b : Addr} {i : Nat} (h : SqA X.K t H a xs) (hi : ItA t' s.heap it b i) (f : H it = none) : a ≠ it := fun z => by
  have cls : ∃ o2, s.heap.get? it = some o2 ∧ (o2.cls = .type "list_iterator" ∨ o2.cls = .type "tuple_iterator") := by
    cases t'
    · obtain ⟨o, e, c, _⟩ := hi
      exact ⟨o, e, .inl c⟩
    · obtain ⟨o, e, c, _⟩ := hi
      exact ⟨o, e, .inr c⟩
  obtain ⟨o2, h2, c2⟩ := cls
  cases t
  · have q : SqL X.K H a xs := h
    rcases q with (q | ⟨o, q⟩) | ⟨o, its', n, q, c, _⟩
    · rw [z, f] at q; cases q
    · rw [z, f] at q; cases q
    · rw [← z] at h2
      rw [I.kIn a o q] at h2
      cases h2
      rw [c] at c2
      rcases c2 with c2 | c2 <;> exact absurd (Value.type.inj c2) (by decide)
  · have q : SqT X.K H a xs := h
    rcases q with (q | ⟨o, q⟩) | ⟨o, its', n, q, c, _⟩
    · rw [z, f] at q; cases q
    · rw [z, f] at q; cases q
    · rw [← z] at h2
      rw [I.kIn a o q] at h2
      cases h2
      rw [c] at c2
      rcases c2 with c2 | c2 <;> exact absurd (Value.type.inj c2) (by decide)
end
theorem vals_at {xs : List V} {its : List Value} (r : Vals xs its) {i : Nat} {u : Value} (h : its.toArray[i]? = some u) : ∃ x, xs[i]? = some x ∧ RelV x u := by
  have hu : its[i]? = some u := by simpa using h
  cases q : xs[i]? with
  | none =>
    rw [r.none_of q] at hu
    cases hu
  | some x =>
    obtain ⟨u', h1, h2⟩ := r.get q
    rw [h1] at hu
    cases hu
    exact ⟨x, rfl, h2⟩

/-! ### pairs -/
/-- n turns, at each a new pair of xs i and ys i -/
def ItP (n : Nat) (G : Hp → Prop) (xs ys : Nat → Option V) : It :=
  ⟨fun i H => i < n ∧ G H, fun i H v H' => ∃ T x y, v = .ref T ∧ H T = none ∧ H' = upd H T (.tup [x, y]) ∧ xs i = some x ∧ ys i = some y, fun i H => i = n ∧ G H⟩
/-- enumerate -/
theorem turn_enumA {P : Program} {w : World} {K : PySem.W.Frag} {elts : List Expr} {kk : Nat} {tpos : Pos} (t : Bool) (a e it : Addr) (xs : List V) :
    Turn P w K (.Tuple elts kk tpos) (ItP xs.length (fun H => SqA K t H a xs) (fun i => some (.int (i : Nat))) fun i => xs[i]?) [e, it] e (fun i h => (∃ old, IsEnum h e it ((0 : Int) + (i : Int)) old) ∧ ItA t h it a i ∧ e ≠ it) where
  mem := by simp
  obj := fun i h st b hb => by
    obtain ⟨⟨old, he⟩, hi, _⟩ := st
    rcases (by simpa using hb : b = e ∨ b = it) with z | z
    · rw [z]; exact ⟨_, he, fun v q => nomatch q⟩
    · rw [z]; exact itA_obj hi
  keep := fun i h h' st k => let ⟨⟨old, he⟩, hi, hne⟩ := st; ⟨⟨old, k e (by simp) _ he⟩, itA_at hi fun o q => k it (by simp) o q, hne⟩
  item := by
    intro X hP hw hK hc i pins s σ H E I hf st hg
    subst hP hw hK
    obtain ⟨⟨old, he⟩, hit, hne⟩ := st
    obtain ⟨hi, hq⟩ := hg
    obtain ⟨its, rv, p⟩ := seqA I hq
    have lv := rv.length
    have hal := seqA_lt I hq
    obtain ⟨oi, hio, _⟩ := itA_obj hit
    have hil : it < s.heap.objs.size := Heap.lt_size hio
    have hel : e < s.heap.objs.size := Heap.lt_size he
    have hai : a ≠ it := seqA_ne I hq hit (hf it (by simp)).1
    have hae : a ≠ e := fun z => by
      cases t
      · obtain ⟨o, q, c, _⟩ := (show s.heap.IsList a its.toArray from p)
        rw [z] at q
        have he' := q.symm.trans he
        cases he'
        exact absurd (Value.type.inj c) (by decide)
      · obtain ⟨o, q, c, _⟩ := (show s.heap.IsTuple a its.toArray from p)
        rw [z] at q
        have he' := q.symm.trans he
        cases he'
        exact absurd (Value.type.inj c) (by decide)
    have W := GoesN.enumFrom (prog := X.prog) (w := X.w) (A := X.A) (elts := elts) (x1 := kk) (pos := tpos) 0 (drawsA (prog := X.prog) (w := X.w) (A := X.A.in1) (I.ok.hd hc) t it a hai its.toArray) e hne (by simp; exact ⟨hne, Ne.symm hae⟩) (by simp)
    refine W.goes i s _ E (by simp; omega) ⟨⟨old, he⟩, hit, p⟩ fun v h' tk hy st' hk htk => ?_
    obtain ⟨T, tt, x, rfl, hT, hx, hTt⟩ := hy
    obtain ⟨xv, hxv, rx⟩ := vals_at rv hx
    obtain ⟨oT, qT, cT, nT, dT⟩ := hTt
    have new : ObjOk X.prog X.w (upd H T (.tup [.int (i : Nat), xv])) h' T (.tup [.int (i : Nat), xv]) :=
      ⟨by show 2 ≤ sizeLine; decide, [.int ((0 : Int) + (i : Int)) tt, x], .cons ⟨tt, by simp⟩ (.cons rx .nil), ⟨oT, qT, cT, nT, dT⟩⟩
    have I1 := I.turnedNew (t' := tk) (ch := [e, it]) (fun b o hb q => hk b o hb q) hf hT new
    refine ⟨.ref T, _, I1, rfl, ⟨T, _, xv, rfl, I.hok.fresh hT, rfl, rfl, hxv⟩, ⟨st'.1, st'.2.1, hne⟩, fun b hb => ?_⟩
    have hb' : b < s.heap.objs.size := by
      rcases (by simpa using hb : b = e ∨ b = it) with z | z
      · rw [z]; exact hel
      · rw [z]; exact hil
    rw [upd_ne (Nat.ne_of_lt (Nat.lt_of_lt_of_le hb' hT))]
    exact (hf b hb).1
  done := by
    intro X hP hw hK hc i pins s σ H E I hf st hg
    subst hP hw hK
    obtain ⟨⟨old, he⟩, hit, hne⟩ := st
    obtain ⟨hi, hq⟩ := hg
    obtain ⟨its, rv, p⟩ := seqA I hq
    have lv := rv.length
    obtain ⟨oi, hio, _⟩ := itA_obj hit
    obtain ⟨f0, f1, f2, f3, f4, f5⟩ := hf it (by simp)
    have hai : a ≠ it := seqA_ne I hq hit f0
    refine wpAny_pyNext_enum_endD (drawsA (prog := X.prog) (w := X.w) (A := X.A.in1) (I.ok.hd hc) t it a hai its.toArray) he ?_ fun h' eb => ⟨rfl, I.turned (t' := s.toks) (fun b o hb q => eb b o hb q) f0 f1 f3 f4 f5⟩
    have e1 : its.toArray.size = i := by simp; omega
    rw [e1]
    exact ⟨hit, p⟩
  self := fun A i s Q E st h => let ⟨⟨_, he⟩, _⟩ := st; wpAny_pyIter_enum he h
end Ev

set_option Elab.async false
set_option linter.all false
set_option maxRecDepth 100000
set_option maxHeartbeats 4000000
/-! EvH: zip's turn; the iterables. -/
namespace Ev
open PySem PySem.Spec L2
theorem min_le_split {a b i : Nat} (h : i < min a b) : i < a ∧ i < b := by omega
/-- zip -/
theorem turn_zipA {P : Program} {w : World} {K : PySem.W.Frag} {elts : List Expr} {kk : Nat} {tpos : Pos} (t1 t2 : Bool) (a b z TI TO i1 i2 : Addr) (xs ys : List V) (hd : TI ≠ z ∧ TO ≠ z ∧ TI ≠ TO ∧ TI ≠ i1 ∧ TI ≠ i2 ∧ i1 ≠ z ∧ i2 ≠ z ∧ i1 ≠ TO ∧ i2 ≠ TO ∧ i1 ≠ i2 ∧ a ≠ z ∧ b ≠ z ∧ a ≠ TO ∧ b ≠ TO ∧ a ≠ i1 ∧ a ≠ i2 ∧ b ≠ i1 ∧ b ≠ i2) :
    Turn P w K (.Tuple elts kk tpos) (ItP (min xs.length ys.length) (fun H => SqA K t1 H a xs ∧ SqA K t2 H b ys) (fun i => xs[i]?) fun i => ys[i]?) [z, TI, TO, i1, i2] z
      (fun i h => IsZip h z TI TO .none ∧ IsTupOf2 h TI (.ref i1) (.ref i2) ∧ (∃ x y, IsTupOf2 h TO x y) ∧ ItA t1 h i1 a i ∧ ItA t2 h i2 b i) where
  mem := by simp
  obj := fun i h st c hc => by
    obtain ⟨hz, hTI, ⟨x, y, hTO⟩, h1, h2⟩ := st
    rcases (by simpa using hc : c = z ∨ c = TI ∨ c = TO ∨ c = i1 ∨ c = i2) with q | q | q | q | q
    · rw [q]; exact ⟨_, hz, fun v q => nomatch q⟩
    · rw [q]; exact ⟨_, hTI, fun v q => nomatch q⟩
    · rw [q]; exact ⟨_, hTO, fun v q => nomatch q⟩
    · rw [q]; exact itA_obj h1
    · rw [q]; exact itA_obj h2
  keep := fun i h h' st k => by
    obtain ⟨hz, hTI, ⟨x, y, hTO⟩, h1, h2⟩ := st
    exact ⟨k z (by simp) _ hz, k TI (by simp) _ hTI, ⟨x, y, k TO (by simp) _ hTO⟩, itA_at h1 fun o q => k i1 (by simp) o q, itA_at h2 fun o q => k i2 (by simp) o q⟩
  item := by
    intro X hP hw hK hc i pins s σ H E I hf st hg
    subst hP hw hK
    obtain ⟨hz, hTI, hTO, h1, h2⟩ := st
    obtain ⟨hi, hqx, hqy⟩ := hg
    obtain ⟨its, rv, p⟩ := seqA I hqx
    obtain ⟨its2, rv2, p2⟩ := seqA I hqy
    have l1 := rv.length
    have l2 := rv2.length
    obtain ⟨d1, d2, d3, d4, d5, d6, d7, d8, d9, d10, d11, d12, d13, d14, d15, d16, d17, d18⟩ := hd
    have W := GoesN.zip2 (prog := X.prog) (w := X.w) (A := X.A) (elts := elts) (x1 := kk) (pos := tpos) (z := z) (TI := TI) (TO := TO) (i1 := i1) (i2 := i2) (fp1 := [i1, a]) (fp2 := [i2, b])
      { TIz := d1, TOz := d2, TITO := d3, TIi1 := d4, mem1 := by simp, zf1 := by simp; exact ⟨d6.symm, d11.symm⟩, Tf1 := by simp; exact ⟨d8.symm, d13.symm⟩, TIi2 := d5, mem2 := by simp, zf2 := by simp; exact ⟨d7.symm, d12.symm⟩, Tf2 := by simp; exact ⟨d9.symm, d14.symm⟩, sep1_2 := by simp; exact ⟨d10, d17.symm⟩, sep2_1 := by simp; exact ⟨d10.symm, d16.symm⟩ }
      (drawsA (prog := X.prog) (w := X.w) (A := X.A.in1) (I.ok.hd hc) t1 i1 a d15 its.toArray) (drawsA (prog := X.prog) (w := X.w) (A := X.A.in1) (I.ok.hd hc) t2 i2 b d18 its2.toArray)
    refine W.goes i s _ E (by simp only [List.size_toArray]; omega) ⟨hz, hTI, hTO, ⟨h1, p⟩, ⟨h2, p2⟩⟩ fun v h' tk hy st' hk htk => ?_
    obtain ⟨T, x, y, rfl, hT, hx, hy, hTt⟩ := hy
    obtain ⟨xv, hxv, rx⟩ := vals_at rv hx
    obtain ⟨yv, hyv, ry⟩ := vals_at rv2 hy
    obtain ⟨oT, qT, cT, nT, dT⟩ := hTt
    have new : ObjOk X.prog X.w (upd H T (.tup [xv, yv])) h' T (.tup [xv, yv]) := ⟨by show 2 ≤ sizeLine; decide, [x, y], .cons rx (.cons ry .nil), ⟨oT, qT, cT, nT, dT⟩⟩
    have I1 := I.turnedNew (t' := tk) (ch := [z, TI, TO, i1, i2]) (fun c o hb q => hk c o (fun m => hb (by simp at m ⊢; rcases m with m | m | m | m <;> simp [m])) q) hf hT new
    refine ⟨.ref T, _, I1, rfl, ⟨T, xv, yv, rfl, I.hok.fresh hT, rfl, hxv, hyv⟩, ⟨st'.1, st'.2.1, st'.2.2.1, st'.2.2.2.1.1, st'.2.2.2.2.1⟩, fun c hcm => ?_⟩
    have hlt : c < s.heap.objs.size := by
      obtain ⟨x0, y0, hTO⟩ := hTO
      obtain ⟨o1, e1, _⟩ := itA_obj h1
      obtain ⟨o2, e2, _⟩ := itA_obj h2
      rcases (by simpa using hcm : c = z ∨ c = TI ∨ c = TO ∨ c = i1 ∨ c = i2) with q | q | q | q | q
      · rw [q]; exact Heap.lt_size hz
      · rw [q]; exact Heap.lt_size hTI
      · rw [q]; exact Heap.lt_size hTO
      · rw [q]; exact Heap.lt_size e1
      · rw [q]; exact Heap.lt_size e2
    rw [upd_ne (Nat.ne_of_lt (Nat.lt_of_lt_of_le hlt hT))]
    exact (hf c hcm).1
  done := by
    intro X hP hw hK hc i pins s σ H E I hf st hg
    subst hP hw hK
    obtain ⟨hz, hTI, hTO, h1, h2⟩ := st
    obtain ⟨hi, hqx, hqy⟩ := hg
    obtain ⟨its, rv, p⟩ := seqA I hqx
    obtain ⟨its2, rv2, p2⟩ := seqA I hqy
    have l1 := rv.length
    have l2 := rv2.length
    obtain ⟨d1, d2, d3, d4, d5, d6, d7, d8, d9, d10, d11, d12, d13, d14, d15, d16, d17, d18⟩ := hd
    have W := GoesN.zip2 (prog := X.prog) (w := X.w) (A := X.A) (elts := elts) (x1 := kk) (pos := tpos) (z := z) (TI := TI) (TO := TO) (i1 := i1) (i2 := i2) (fp1 := [i1, a]) (fp2 := [i2, b])
      { TIz := d1, TOz := d2, TITO := d3, TIi1 := d4, mem1 := by simp, zf1 := by simp; exact ⟨d6.symm, d11.symm⟩, Tf1 := by simp; exact ⟨d8.symm, d13.symm⟩, TIi2 := d5, mem2 := by simp, zf2 := by simp; exact ⟨d7.symm, d12.symm⟩, Tf2 := by simp; exact ⟨d9.symm, d14.symm⟩, sep1_2 := by simp; exact ⟨d10, d17.symm⟩, sep2_1 := by simp; exact ⟨d10.symm, d16.symm⟩ }
      (drawsA (prog := X.prog) (w := X.w) (A := X.A.in1) (I.ok.hd hc) t1 i1 a d15 its.toArray) (drawsA (prog := X.prog) (w := X.w) (A := X.A.in1) (I.ok.hd hc) t2 i2 b d18 its2.toArray)
    have en : min its.toArray.size its2.toArray.size = i := by simp only [List.size_toArray]; omega
    rw [en] at W
    refine W.stops s (fun s1 => Inv X pins σ H s1) E ⟨hz, hTI, hTO, ⟨h1, p⟩, ⟨h2, p2⟩⟩ fun h' tk hk htk => ?_
    exact I.turnedL (t' := tk) (ch := [z, TI, TO, i1, i2]) (fun c o hb q => hk c o (fun m => hb (by simp at m ⊢; rcases m with m | m | m | m <;> simp [m])) q) hf
  self := fun A i s Q E st h => wpAny_pyIter_zip st.1 h

/-! ### the calls -/
theorem meets_enum1 {v : Value} {o : Obj} {H : Heap → Prop} (B : Begins v o H) : Meets (Builtin.«enumerate.__new__» ⟨[.type "enumerate", v], []⟩) (fun _ R s => H s.heap ∧
    R (.ok (.ret (.ref (s.heap.push o).objs.size))) { s with heap := (s.heap.push o).push { cls := .type "enumerate", data := .fields #[.none, .bool false, .ref s.heap.objs.size, rawInt 0, .none, .none] } }) :=
  .of_wp fun prog w A R s h => by
    obtain ⟨hp, g, d, tk, os⟩ := s
    obtain ⟨h1, h⟩ := h
    have hsub := sub_enumerate
    have it1 : ∀ {A' : Around} {E : Value → Shared → Prop} {Q : Value → Shared → Prop}, Q (.ref hp.objs.size) ⟨hp.push o, g, d, tk, os⟩ → wpAny (model prog w) A' (pyIter v) Q E ⟨hp, g, d, tk, os⟩ :=
      fun q => B.iter prog w _ _ ⟨hp, g, d, tk, os⟩ _ h1 q
    wp_walk using it1
    refine wpAny_stack_any fun st => wpAny_pure ?_
    split
    · rename_i c _ _ _ _ _
      cases (c == Value.type "enumerate")
      · wp_walk using it1
        exact ⟨_, rfl, h⟩
      · wp_walk using it1
        exact ⟨_, rfl, h⟩
    · wp_walk using it1
      exact ⟨_, rfl, h⟩
section
variable {prog : Program} {w : World} {A : Around} {E : Value → Shared → Prop} {s : Shared}
theorem call_enum1 {v : Value} {o : Obj} {H : Heap → Prop} {Q : Value → Shared → Prop} (B : Begins v o H) (h1 : H s.heap)
    (h : ∀ h', IsEnum h' (s.heap.objs.size + 1) s.heap.objs.size 0 .none → h'.get? s.heap.objs.size = some o → (∀ b o, s.heap.get? b = some o → h'.get? b = some o) → Q (.ref (s.heap.objs.size + 1)) { s with heap := h' }) :
    wpAny (model prog w) A (call (.type "enumerate") [v]) Q E s := by
  refine callType_new PySem.F.called_enumerate (by decide) (PySem.F.typeCall_enumerate_1 _) (PySem.F.newCall_enumerate_1 _) (fun obj => PySem.F.args_object_init_2 obj _) PySem.F.entry_enumerate_new (meets_enum1 B) ⟨h1, ?_⟩
  have z1 : (s.heap.push o).objs.size = s.heap.objs.size + 1 := Heap.size_push ..
  show _ ∧ _
  rw [z1]
  have he : IsEnum ((s.heap.push o).push { cls := .type "enumerate", data := .fields #[.none, .bool false, .ref s.heap.objs.size, rawInt 0, .none, .none] }) (s.heap.objs.size + 1) s.heap.objs.size 0 .none := by
    have q := Heap.get?_push_size (s.heap.push o) (o := { cls := .type "enumerate", data := .fields #[.none, .bool false, .ref s.heap.objs.size, rawInt 0, .none, .none] }) rfl
    rw [z1] at q
    exact q
  refine ⟨⟨_, he, rfl⟩, h _ he (Heap.get?_push_of_some _ (Heap.get?_push_size _ B.free)) fun b o x => Heap.get?_push_of_some _ (Heap.get?_push_of_some _ x)⟩
end
section
variable {X : Cx} {tg : Expr}
def iEnumA (K : PySem.W.Frag) (ta : TA) : TI := fun σ H R => ta σ H fun vs H1 => ∃ t a xs, vs = [.ref a] ∧ SqA K t H1 a xs ∧ R (ItP xs.length (fun H => SqA K t H a xs) (fun i => some (.int (i : Nat))) fun i => xs[i]?) H1
theorem pi_enumA {e : Expr} {ta : TA} {p pos tpos : Pos} {elts : List Expr} {kk : Nat} (hg : Gl X "enumerate") (hm : X.mg "enumerate" = none) (ha : PA X [e] ta) (hs : starEach [e] X.env = [(false, eval e X.env)]) :
    PI X (.Tuple elts kk tpos) (.Call (.Name "enumerate" p) [e] [] pos) (iEnumA X.K ta) := by
  refine ⟨fun pins s σ H R I h => ?_⟩
  refine PyProof.Rows.Call_ (ld_blt I hg hm PyProof.Rows.boot_enumerate (PyProof.Rows.callWith_type1 (thn (ha.run pos pins s σ H _ I h) fun us s1 ⟨vs, H1, I1, r1, q1⟩ => ?_) hs rfl))
  obtain ⟨t, a, xs, ex, hq, q⟩ := q1
  subst ex
  cases r1 with
  | cons r rr =>
    cases rr
    cases r
    obtain ⟨its, rv, p⟩ := seqA I1 hq
    refine call_enum1 (beginsA t a its.toArray) p fun h' he hit hk => wpAny_pyIter_enum he ?_
    have I2 : Inv X pins σ H1 { s1 with heap := h' } := I1.kept (t' := s1.toks) hk
    refine ⟨s1.heap.objs.size + 1, [s1.heap.objs.size + 1, s1.heap.objs.size], _, _, H1, rfl, I2, turn_enumA t a (s1.heap.objs.size + 1) s1.heap.objs.size xs, ⟨⟨.none, by simpa using he⟩, itA_new hit, Nat.succ_ne_self _⟩, fun b hb => ?_, q⟩
    have hle : s1.heap.objs.size ≤ b := by
      rcases (by simpa using hb : b = s1.heap.objs.size + 1 ∨ b = s1.heap.objs.size) with z | z
      · rw [z]; exact Nat.le_add_right _ _
      · rw [z]; exact Nat.le_refl _
    exact I1.fpOk hle (I1.hok.fresh hle)
def iZipB (K : PySem.W.Frag) (ta : TA) : TI := fun σ H R => ta σ H fun vs H1 => ∃ t1 t2 a b xs ys, vs = [.ref a, .ref b] ∧ SqA K t1 H1 a xs ∧ SqA K t2 H1 b ys ∧
  R (ItP (min xs.length ys.length) (fun H => SqA K t1 H a xs ∧ SqA K t2 H b ys) (fun i => xs[i]?) fun i => ys[i]?) H1
theorem ne_add {n a b : Nat} (h : a ≠ b) : n + a ≠ n + b := by omega
theorem ne_new {n a k : Nat} (h : a < n) : a ≠ n + k := by omega
theorem pi_zipB {e e2 : Expr} {ta : TA} {p pos tpos : Pos} {elts : List Expr} {kk : Nat} (hg : Gl X "zip") (hm : X.mg "zip" = none) (ha : PA X [e, e2] ta)
    (hs : starEach [e, e2] X.env = (false, eval e X.env) :: starEach [e2] X.env) (hpl : (backTo pos (starEach [e2] X.env)).any (·.1) = false) :
    PI X (.Tuple elts kk tpos) (.Call (.Name "zip" p) [e, e2] [] pos) (iZipB X.K ta) := by
  refine ⟨fun pins s σ H R I h => ?_⟩
  refine PyProof.Rows.Call_ (ld_blt I hg hm PyProof.Rows.boot_zip (PyProof.Rows.callWith_type1 (thn (ha.run pos pins s σ H _ I h) fun us s1 ⟨vs, H1, I1, r1, q1⟩ => ?_) hs hpl))
  obtain ⟨t1, t2, a, b, xs, ys, ex, hqx, hqy, q⟩ := q1
  subst ex
  obtain ⟨u, u2, rfl, ru, ru2⟩ := Vals.two r1
  cases ru
  cases ru2
  obtain ⟨its, rv, p1⟩ := seqA I1 hqx
  obtain ⟨its2, rv2, p2⟩ := seqA I1 hqy
  have la : a < s1.heap.objs.size := seqA_lt I1 hqx
  have lb : b < s1.heap.objs.size := seqA_lt I1 hqy
  refine zip_begins2 (beginsA t1 a its.toArray) (beginsA t2 b its2.toArray) p1 p2 fun h' hz hTI hTO h1 h2 hsz hk => wpAny_pyIter_zip hz ?_
  have I2 : Inv X pins σ H1 { s1 with heap := h' } := I1.kept (t' := s1.toks) hk
  have n0 : ∀ {c : Nat} (k : Nat), c < s1.heap.objs.size → c ≠ s1.heap.objs.size + k := fun k h => ne_new h
  refine ⟨s1.heap.objs.size + 4, [s1.heap.objs.size + 4, s1.heap.objs.size + 2, s1.heap.objs.size + 3, s1.heap.objs.size, s1.heap.objs.size + 1], _, _, H1, rfl, I2,
    turn_zipA t1 t2 a b (s1.heap.objs.size + 4) (s1.heap.objs.size + 2) (s1.heap.objs.size + 3) s1.heap.objs.size (s1.heap.objs.size + 1) xs ys
      ⟨ne_add (by decide), ne_add (by decide), ne_add (by decide), ne_add (b := 0) (by decide), ne_add (by decide), ne_add (a := 0) (by decide), ne_add (by decide), ne_add (a := 0) (by decide), ne_add (by decide), ne_add (a := 0) (by decide), n0 4 la, n0 4 lb, n0 3 la, n0 3 lb, n0 0 la, n0 1 la, n0 0 lb, n0 1 lb⟩,
    ⟨hz, hTI, ⟨_, _, hTO⟩, itA_new h1, itA_new h2⟩, fun c hcm => ?_, q⟩
  have hle : s1.heap.objs.size ≤ c := by
    rcases (by simpa using hcm : c = s1.heap.objs.size + 4 ∨ c = s1.heap.objs.size + 2 ∨ c = s1.heap.objs.size + 3 ∨ c = s1.heap.objs.size ∨ c = s1.heap.objs.size + 1) with z | z | z | z | z
    · rw [z]; exact Nat.le_add_right _ _
    · rw [z]; exact Nat.le_add_right _ _
    · rw [z]; exact Nat.le_add_right _ _
    · rw [z]; exact Nat.le_refl _
    · rw [z]; exact Nat.le_add_right _ _
  exact I1.fpOk hle (I1.hok.fresh hle)
end

/-! ### items -/
structure ItOk (K : PySem.W.Frag) (pr : Bool) (J : It) (G : Hp) (items : List PyData) : Prop where
  stop : ∀ H, Same G H → J.stop items.length H
  go : ∀ i H, i < items.length → Same G H → J.go i H
  yld : ∀ i H x H', i < items.length → Same G H → J.yld i H x H' → ∃ d, items[i]? = some d ∧ ((pr = false ∧ H' = H ∧ Rp K G x d) ∨ ∃ p vs ds, pr = true ∧ H p = none ∧ H' = upd H p (.tup vs) ∧ x = .ref p ∧ d = .tuple ds ∧ RpAll K G vs ds)
def tI (K : PySem.W.Frag) (mg : Str → Option Value) (W : WX) (pr : Bool) (m : M (List PyData)) : TI := fun σ H R => ∃ e G F B, SR K F B σ H e G ∧ Ok m e (fun items e' => ∀ J H' G', SR K F B σ H' e' G' → Same G G' → ItOk K pr J G' items → R J H') (WE K mg W F B G)
abbrev SI (X : Cx) (W : WX) (pr : Bool) (tg it : Expr) (m : M (List PyData)) : Prop := PI X tg it (tI X.K X.mg W pr m)
def itemsOf : PyData → Option (List PyData)
  | .list ds => some ds
  | .tuple ds => some ds
  | _ => none
def seqM (m : M RV) : M (List PyData) := do
  let r ← m
  liftO (itemsOf r.d)
def rngI (lo : Int) (n : Nat) : List PyData := (List.range n).map fun (k : Nat) => PyData.int (lo + (k : Int))
def rngD : List PyData → Option (List PyData)
  | [.int j] => if -1000000 < j ∧ j < 1000000 then some (rngI 0 j.toNat) else none
  | [.int i, .int j] => if -1000000 < i ∧ i < 1000000 ∧ -1000000 < j ∧ j < 1000000 then some (rngI i (j - i).toNat) else none
  | _ => none
def rng1M (m : M OV) : M (List PyData) := do
  let o ← m
  let d ← der o
  liftO (rngD [d])
def rng2M (m n : M OV) : M (List PyData) := do
  let o ← m
  let p ← n
  let d ← der o
  let e ← der p
  liftO (rngD [d, e])
def enumM (m : M RV) : M (List PyData) := do
  let ds ← seqM m
  pure (ds.mapIdx fun i d => .tuple [.int (i : Nat), d])
def zipM (m n : M RV) : M (List PyData) := do
  let r ← m
  let t ← n
  let ds ← liftO (itemsOf r.d)
  let es ← liftO (itemsOf t.d)
  pure (List.zipWith (fun d e => .tuple [d, e]) ds es)
section
variable {K : PySem.W.Frag} {G : Hp}
theorem itl_ok {a : Addr} {vs : List V} {ds : List PyData} (h : LsR K G a vs) (r : RpAll K G vs ds) : ItOk K false (Itl K a) G ds where
  stop := fun H s => ⟨vs, (h.same s).sqL, by rw [r.len]; exact Nat.le_refl _⟩
  go := fun i H hi s => ⟨vs, vs[i]'(by rw [r.len]; exact hi), (h.same s).sqL, by simp [r.len, hi]⟩
  yld := fun i H x H' hi s ⟨e1, e2⟩ => by
    obtain ⟨d, h1, h2⟩ := r.getV (e2 vs ((h.same s).sqL))
    exact ⟨d, h1, .inl ⟨rfl, e1, h2⟩⟩
theorem itt_ok {a : Addr} {vs : List V} {ds : List PyData} (h : SqT K G a vs) (r : RpAll K G vs ds) : ItOk K false (Itt K a) G ds where
  stop := fun H s => ⟨vs, sqT_same s h, by rw [r.len]; exact Nat.le_refl _⟩
  go := fun i H hi s => ⟨vs, vs[i]'(by rw [r.len]; exact hi), sqT_same s h, by simp [r.len, hi]⟩
  yld := fun i H x H' hi s ⟨e1, e2⟩ => by
    obtain ⟨d, h1, h2⟩ := r.getV (e2 vs (sqT_same s h))
    exact ⟨d, h1, .inl ⟨rfl, e1, h2⟩⟩
theorem itr_ok {lo : Int} {n : Nat} : ItOk K false (Itr lo n) G (rngI lo n) where
  stop := fun H s => by show n ≤ _; simp [rngI]
  go := fun i H hi s => by show i < n; simpa [rngI] using hi
  yld := fun i H x H' hi s ⟨e1, e2⟩ => by
    subst e1 e2
    refine ⟨.int (lo + (i : Int)), ?_, .inl ⟨rfl, rfl, .int _⟩⟩
    have hi : i < n := by simpa [rngI] using hi
    simp [rngI, hi]
theorem itp_ok {n : Nat} {P : Hp → Prop} {xs ys : Nat → Option V} {ds : List PyData} (hn : ds.length = n) (hp : ∀ H, Same G H → P H) (r : ∀ i x y, xs i = some x → ys i = some y → ∃ d e, ds[i]? = some (.tuple [d, e]) ∧ Rp K G x d ∧ Rp K G y e) : ItOk K true (ItP n P xs ys) G ds where
  stop := fun H s => ⟨hn, hp H s⟩
  go := fun i H hi s => ⟨by omega, hp H s⟩
  yld := fun i H v H' hi s ⟨T, x, y, e1, e2, e3, e4, e5⟩ => by
    obtain ⟨d, e, h1, h2, h3⟩ := r i x y e4 e5
    exact ⟨_, h1, .inr ⟨T, _, _, rfl, e2, e3, e1, rfl, .cons h2 (.cons h3 .nil)⟩⟩
theorem sqA_rp {v : V} {d : PyData} {ds : List PyData} (h : Rp K G v d) (e : itemsOf d = some ds) : ∃ t a vs, v = .ref a ∧ SqA K t G a vs ∧ RpAll K G vs ds := by
  cases h <;> try cases e
  · rename_i a xs h1 h2
    exact ⟨false, a, xs, rfl, h1.sqL, h2⟩
  · rename_i a xs h1 h2
    exact ⟨true, a, xs, rfl, h1.sqT, h2⟩
theorem sqA_same {t : Bool} {G' : Hp} {a : Addr} {vs : List V} (h : SqA K t G a vs) (s : Same G G') : SqA K t G' a vs := by
  cases t
  · exact Same.seq s h
  · exact sqT_same s h
end
section
variable {X : Cx} {W : WX} {tg e e2 : Expr} {pos p tpos : Pos} {elts : List Expr} {kk : Nat}
theorem si_seq {m : M RV} (h : SV X W e m) : SI X W false tg e (seqM m) := weakI (orI (pi_list h) (pi_tup h)) fun σ H R ⟨en, G, F, B, s, k⟩ => by
  have k := ok_bind.mp k
  have step : ∀ r e1, m en = some (.ok r e1) → ∃ items, itemsOf r.d = some items ∧ (∀ J H' G', SR X.K F B σ H' e1 G' → Same G G' → ItOk X.K false J G' items → R J H') := fun r e1 q => by
    unfold Ok at k
    rw [q] at k
    exact ok_liftO.mp k
  have left : (∀ r e1, m en = some (.ok r e1) → ∃ ds, r.d = .list ds) → iList X.K (tV X.K X.mg W m) σ H R := fun hl => by
    refine ⟨en, G, F, B, s, ?_⟩
    unfold Ok at k ⊢
    split at k
    · exact k
    · rename_i r e1 q
      obtain ⟨ds, ed⟩ := hl r e1 q
      obtain ⟨items, hi, k2⟩ := step r e1 q
      intro v H1 G1 s1 m1 rr
      obtain ⟨G2, s2, m2, rp⟩ := rr.freeze s1
      rw [ed] at rp hi
      cases hi
      cases rp with
      | lst h1 h2 => exact ⟨_, rfl, ⟨_, (h1.same s2.sub).sqL⟩, k2 _ H1 G2 s2 (m1.trans m2) (itl_ok h1 h2)⟩
    · exact k
  have right : (∀ r e1, m en = some (.ok r e1) → ∃ ds, r.d = .tuple ds) → iTup X.K (tV X.K X.mg W m) σ H R := fun hl => by
    refine ⟨en, G, F, B, s, ?_⟩
    unfold Ok at k ⊢
    split at k
    · exact k
    · rename_i r e1 q
      obtain ⟨ds, ed⟩ := hl r e1 q
      obtain ⟨items, hi, k2⟩ := step r e1 q
      intro v H1 G1 s1 m1 rr
      obtain ⟨G2, s2, m2, rp⟩ := rr.freeze s1
      rw [ed] at rp hi
      cases hi
      cases rp with
      | tup h1 h2 => exact ⟨_, rfl, ⟨_, sqT_same s2.sub h1.sqT⟩, k2 _ H1 G2 s2 (m1.trans m2) (itt_ok h1.sqT h2)⟩
    · exact k
  cases q : m en with
  | none =>
    refine .inl (left fun r e1 q' => ?_)
    rw [q] at q'; cases q'
  | some rs =>
    cases rs with
    | ex x e1 =>
      refine .inl (left fun r e1 q' => ?_)
      rw [q] at q'; cases q'
    | ok r e1 =>
      obtain ⟨items, hi, _⟩ := step r e1 q
      obtain ⟨d, fr⟩ := r
      cases d <;> try cases hi
      · refine .inl (left fun r e1 q' => ?_)
        rw [q] at q'; cases q'
        exact ⟨_, rfl⟩
      · refine .inr (right fun r e1 q' => ?_)
        rw [q] at q'; cases q'
        exact ⟨_, rfl⟩
theorem si_rng1 {m : M OV} (hg : Gl X "range") (hm : X.mg "range" = none) (h : SO X W e m) (h1 : starEach [e] X.env = (false, eval e X.env) :: starEach [] X.env) (hs : starEach [e] X.env = [(false, eval e X.env)]) : SI X W false tg (.Call (.Name "range" p) [e] [] pos) (rng1M m) :=
  weakI (pi_range1 hg hm (pa_cons h pa_nil h1) hs) fun σ H R ⟨en, G, F, B, s, k⟩ => by
    refine ⟨en, G, F, B, s, (ok_bind.mp k).imp (fun o e1 k1 v H1 G1 s1 m1 r1 => ?_) fun _ _ w => w⟩
    obtain ⟨d, hd, k2⟩ := s1.der r1 (ok_bind.mp k1)
    obtain ⟨items, hi, k3⟩ := ok_liftO.mp k2
    unfold rngD at hi
    split at hi
    · rename_i j ej
      injection ej with ej _
      subst ej
      split at hi
      · rename_i z
        cases hi
        cases hd.int
        exact ⟨j, rfl, by omega, by omega, k3 _ H1 G1 s1 m1 itr_ok⟩
      · cases hi
    · rename_i ej
      cases ej
    · cases hi
theorem si_rng2 {m n : M OV} (hg : Gl X "range") (hm : X.mg "range" = none) (h : SO X W e m) (h' : SO X W e2 n) (h1 : starEach [e, e2] X.env = (false, eval e X.env) :: starEach [e2] X.env) (h2 : starEach [e2] X.env = (false, eval e2 X.env) :: starEach [] X.env)
    (hs : starEach [e, e2] X.env = [(false, eval e X.env), (false, eval e2 X.env)]) (hs2 : starEach [e2] X.env = [(false, eval e2 X.env)]) : SI X W false tg (.Call (.Name "range" p) [e, e2] [] pos) (rng2M m n) :=
  weakI (pi_range2 hg hm (pa_cons h (pa_cons h' pa_nil h2) h1) hs hs2) fun σ H R ⟨en, G, F, B, s, k⟩ => by
    refine ⟨en, G, F, B, s, (ok_bind.mp k).imp (fun o e1 k1 v H1 G1 s1 m1 r1 => ?_) fun _ _ w => w⟩
    refine ⟨e1, G1, F, B, s1, (ok_bind.mp k1).imp (fun o2 e2 k2 v2 H2 G2 s2 m2 r2 => ?_) fun _ _ w => w.up m1⟩
    obtain ⟨d, hd, k3⟩ := s2.der (r1.up m2) (ok_bind.mp k2)
    obtain ⟨d2, hd2, k4⟩ := s2.der r2 (ok_bind.mp k3)
    obtain ⟨items, hi, k5⟩ := ok_liftO.mp k4
    unfold rngD at hi
    split at hi
    · rename_i ej
      cases ej
    · rename_i i j ej
      injection ej with ej ej2
      injection ej2 with ej2 _
      subst ej ej2
      split at hi
      · rename_i z
        cases hi
        cases hd.int
        cases hd2.int
        exact ⟨i, j, rfl, ⟨by omega, by omega, by omega, by omega⟩, k5 _ H2 G2 s2 (m1.trans m2) itr_ok⟩
      · cases hi
    · cases hi
theorem mapIdx_get {ds : List PyData} {i : Nat} {d : PyData} (h : ds[i]? = some d) : (ds.mapIdx fun i d => PyData.tuple [.int (i : Nat), d])[i]? = some (.tuple [.int (i : Nat), d]) := by
  simp [h]
theorem si_enm {m : M RV} (hg : Gl X "enumerate") (hm : X.mg "enumerate" = none) (h : SV X W e m) (h1 : starEach [e] X.env = (false, eval e X.env) :: starEach [] X.env) (hs : starEach [e] X.env = [(false, eval e X.env)]) :
    SI X W true (.Tuple elts kk tpos) (.Call (.Name "enumerate" p) [e] [] pos) (enumM m) := weakI (pi_enumA hg hm (pa_cons h pa_nil h1) hs) fun σ H R ⟨en, G, F, B, s, k⟩ => by
  refine ⟨en, G, F, B, s, (ok_bind.mp (ok_bind.mp k)).imp (fun r e1 k1 v H1 G1 s1 m1 rr => ?_) fun _ _ w => w⟩
  obtain ⟨ds, hd, k2⟩ := ok_liftO.mp k1
  obtain ⟨G2, s2, m2, rp⟩ := rr.freeze s1
  obtain ⟨t, a, vs, rfl, h1, h2⟩ := sqA_rp rp hd
  refine ⟨t, a, vs, rfl, sqA_same h1 s2.sub, k2 _ H1 G2 s2 (m1.trans m2) (itp_ok (by simp [h2.len]) (fun H sm => sqA_same h1 sm) fun i x y hx hy => ?_)⟩
  cases hx
  obtain ⟨d, q1, q2⟩ := h2.getV hy
  exact ⟨_, d, mapIdx_get q1, .int _, q2⟩
theorem si_zip {m n : M RV} (hg : Gl X "zip") (hm : X.mg "zip" = none) (h : SV X W e m) (h' : SV X W e2 n) (h1 : starEach [e, e2] X.env = (false, eval e X.env) :: starEach [e2] X.env) (h2 : starEach [e2] X.env = (false, eval e2 X.env) :: starEach [] X.env)
    (hpl : (backTo pos (starEach [e2] X.env)).any (·.1) = false) : SI X W true (.Tuple elts kk tpos) (.Call (.Name "zip" p) [e, e2] [] pos) (zipM m n) := weakI (pi_zipB hg hm (pa_cons h (pa_cons h' pa_nil h2) h1) h1 hpl) fun σ H R ⟨en, G, F, B, s, k⟩ => by
  refine ⟨en, G, F, B, s, (ok_bind.mp k).imp (fun r e1 k1 v H1 G1 s1 m1 rr => ?_) fun _ _ w => w⟩
  obtain ⟨G2, s2, m2, rp⟩ := rr.freeze s1
  refine ⟨e1, G2, F, B, s2, (ok_bind.mp k1).imp (fun r' e2 k2 v' H3 G3 s3 m3 rr' => ?_) fun _ _ w => w.up (m1.trans m2)⟩
  obtain ⟨G4, s4, m4, rp'⟩ := rr'.freeze s3
  obtain ⟨ds, hd, k3⟩ := ok_liftO.mp (ok_bind.mp k2)
  obtain ⟨es, he, k4⟩ := ok_liftO.mp (ok_bind.mp k3)
  obtain ⟨t, a, vs, rfl, q1, q2⟩ := sqA_rp (rp.up (m3.trans m4)) hd
  obtain ⟨t', a', vs', rfl, q1', q2'⟩ := sqA_rp rp' he
  refine ⟨t, t', a, a', vs, vs', rfl, sqA_same q1 s4.sub, sqA_same q1' s4.sub, k4 _ H3 G4 s4 (((m1.trans m2).trans m3).trans m4) (itp_ok (by simp [q2.len, q2'.len]) (fun H sm => ⟨sqA_same q1 sm, sqA_same q1' sm⟩) fun i x y hx hy => ?_)⟩
  obtain ⟨d, z1, z2⟩ := q2.getV hx
  obtain ⟨e, z3, z4⟩ := q2'.getV hy
  exact ⟨d, e, by simp [List.getElem?_zipWith, z1, z3], z2, z4⟩
end
end Ev

set_option Elab.async false
set_option linter.all false
set_option maxRecDepth 100000
set_option maxHeartbeats 4000000
/-! EvI: targets, list comprehensions. -/
namespace Ev
open PySem PySem.Spec L2
open Classical in
/-! ### slots set, wiped, put back -/
theorem set_get {α : Type} {l : List α} {i j : Nat} {a b : α} (h : (l.set i a)[j]? = some b) : (j = i ∧ b = a) ∨ (j ≠ i ∧ l[j]? = some b) := by
  by_cases e : j = i
  · subst e
    by_cases hj : j < l.length
    · rw [List.getElem?_set_self hj] at h
      exact .inl ⟨rfl, (Option.some.inj h).symm⟩
    · rw [List.getElem?_eq_none (by simpa using hj)] at h
      cases h
  · rw [List.getElem?_set_ne (Ne.symm e)] at h
    exact .inr ⟨e, h⟩
section
variable {K : PySem.W.Frag} {F : Hp} {B : List (Nat × Addr)} {σ : St} {H : Hp} {e : En} {G : Hp}
theorem SR.set (s : SR K F B σ H e G) {i : Nat} {v : V} {d : PyData} (h : Rp K G v d) : SR K F B (σ.set i (some v)) H (e.set i (.vl d)) G := by
  refine ⟨by simp [s.len], s.sub, s.frm, s.dsj, fun j d' q => ?_, fun j b ds q => ?_, fun j l b c ds es p q1 q2 q3 q4 => ?_⟩
  · rcases set_get q with ⟨rfl, q'⟩ | ⟨ne, q'⟩
    · cases q'
      have hj : j < σ.length := by
        rw [← s.len]
        by_cases hj : j < e.length
        · exact hj
        · rw [List.getElem?_eq_none (by simpa using hj)] at q
          cases q
      exact ⟨v, List.getElem?_set_self hj, h⟩
    · obtain ⟨w, h1, h2⟩ := s.vls j d' q'
      exact ⟨w, by rw [List.getElem?_set_ne (Ne.symm ne)]; exact h1, h2⟩
  · rcases set_get q with ⟨rfl, q'⟩ | ⟨ne, q'⟩
    · cases q'
    · obtain ⟨p, vs, h1, r⟩ := s.ows j b ds q'
      exact ⟨p, vs, by rw [List.getElem?_set_ne (Ne.symm ne)]; exact h1, r⟩
  · rcases set_get q1 with ⟨rfl, q'⟩ | ⟨ne, q1'⟩
    · cases q'
    · rcases set_get q2 with ⟨rfl, q'⟩ | ⟨ne2, q2'⟩
      · cases q'
      · rw [List.getElem?_set_ne (Ne.symm ne)] at q3
        rw [List.getElem?_set_ne (Ne.symm ne2)] at q4
        exact s.dis j l b c ds es p q1' q2' q3 q4
theorem SR.setOw (s : SR K F B σ H e G) {i : Nat} {p : Addr} {vs : List V} {ds : List PyData} (h1 : G p = none) (h2 : F p = none) (h3 : H p = some (.lst vs)) (h4 : RpAll K G vs ds) (no : ∀ (i : Nat) (b : Bool) (es : List PyData), e[i]? = some (.ow b es) → σ[i]? ≠ some (some (.ref p))) :
    SR K F B (σ.set i (some (.ref p))) H (e.set i (.ow false ds)) G := by
  have isl : i < e.length → i < σ.length := fun h => by rw [← s.len]; exact h
  have lt_of : ∀ {x : Sl}, (e.set i (.ow false ds))[i]? = some x → i < e.length := fun q => by
    by_cases hj : i < e.length
    · exact hj
    · rw [List.getElem?_eq_none (by simpa using hj)] at q
      cases q
  refine ⟨by simp [s.len], s.sub, s.frm, s.dsj, fun j d' q => ?_, fun j b es q => ?_, fun j l b c es fs p' q1 q2 q3 q4 => ?_⟩
  · rcases set_get q with ⟨rfl, q'⟩ | ⟨ne, q'⟩
    · cases q'
    · obtain ⟨w, h1, h2⟩ := s.vls j d' q'
      exact ⟨w, by rw [List.getElem?_set_ne (Ne.symm ne)]; exact h1, h2⟩
  · rcases set_get q with ⟨rfl, q'⟩ | ⟨ne, q'⟩
    · cases q'
      exact ⟨p, vs, List.getElem?_set_self (isl (lt_of q)), h1, h2, h3, h4, fun z => by cases z⟩
    · obtain ⟨p', vs', k1, r⟩ := s.ows j b es q'
      exact ⟨p', vs', by rw [List.getElem?_set_ne (Ne.symm ne)]; exact k1, r⟩
  · rcases set_get q1 with ⟨rfl, q'⟩ | ⟨ne, q1'⟩
    · rcases set_get q2 with ⟨rfl, q'⟩ | ⟨ne2, q2'⟩
      · rfl
      · rw [List.getElem?_set_self (isl (lt_of q1))] at q3
        cases q3
        rw [List.getElem?_set_ne (Ne.symm ne2)] at q4
        exact absurd q4 (no l c fs q2')
    · rcases set_get q2 with ⟨rfl, q'⟩ | ⟨ne2, q2'⟩
      · rw [List.getElem?_set_self (isl (lt_of q2))] at q4
        cases q4
        rw [List.getElem?_set_ne (Ne.symm ne)] at q3
        exact absurd q3 (no j b es q1')
      · rw [List.getElem?_set_ne (Ne.symm ne)] at q3
        rw [List.getElem?_set_ne (Ne.symm ne2)] at q4
        exact s.dis j l b c es fs p' q1' q2' q3 q4
/-- a result stored -/
theorem SR.store (s : SR K F B σ H e G) {i : Nat} {v : V} {r : RV} (h : RR K F σ H e G v r) : SR K F B (σ.set i (some v)) H (e.set i (.of r)) G := by
  obtain ⟨d, fr⟩ := r
  unfold RR at h
  cases fr with
  | true =>
    obtain ⟨p, vs, ds, rfl, e1, h1, h2, h3, h4, h5⟩ := h
    have e1 : d = .list ds := e1
    subst e1
    exact s.setOw h1 h2 h3 h4 h5
  | false =>
    have : Sl.of ⟨d, false⟩ = .vl d := by cases d <;> rfl
    rw [this]
    exact s.set h
end

/-! ### targets -/
def tG (K : PySem.W.Frag) (mg : Str → Option Value) (W : WX) (pr : Bool) (sl : List Nat) (b : PyData → M Unit) : TG := fun v σ H Q => ∃ d e G F B, SR K F B σ H e G ∧ RpP K pr G v d ∧ Ok (b d) e (fun _ e' => ∀ σ' H' G', SR K F B σ' H' e' G' → Same G G' → σ'.length = σ.length ∧ (∀ i, i ∉ sl → σ'[i]? = σ[i]?) → Q σ' H') (WE K mg W F B G)
def tGs (K : PySem.W.Frag) (mg : Str → Option Value) (W : WX) (sl : List Nat) (b : List PyData → M Unit) : TGs := fun vs σ H Q => ∃ ds e G F B, SR K F B σ H e G ∧ RpAll K G vs ds ∧ Ok (b ds) e (fun _ e' => ∀ σ' H' G', SR K F B σ' H' e' G' → Same G G' → σ'.length = σ.length ∧ (∀ i, i ∉ sl → σ'[i]? = σ[i]?) → Q σ' H') (WE K mg W F B G)
@[simp] def nameM (i : Nat) (d : PyData) : M Unit := store i ⟨d, false⟩
@[simp] def nilM : List PyData → M Unit
  | [] => pure ()
  | _ => liftO none
@[simp] def consM (b : PyData → M Unit) (bs : List PyData → M Unit) : List PyData → M Unit
  | d :: ds => do
    b d
    bs ds
  | [] => liftO none
@[simp] def tupT (n : Nat) (bs : List PyData → M Unit) : PyData → M Unit
  | .tuple ds => if ds.length = n then bs ds else liftO none
  | _ => liftO none
theorem not_none {α : Type} {e : En} {P : α → En → Prop} {W : Exn → En → Prop} (h : Ok (liftO (none : Option α)) e P W) : False := by
  obtain ⟨_, z, _⟩ := ok_liftO.mp h
  cases z
theorem ok_store {i : Nat} {r : RV} {e : En} {P : Unit → En → Prop} {W : Exn → En → Prop} (h : Ok (store i r) e P W) : i < e.length ∧ P () (e.set i (.of r)) := by
  unfold Ok Ev.store at h
  by_cases q : i < e.length
  · rw [if_pos q] at h; exact ⟨q, h⟩
  · rw [if_neg q] at h; exact h.elim
abbrev SG (X : Cx) (W : WX) (pr : Bool) (tg : Expr) (sl : List Nat) (b : PyData → M Unit) : Prop := PG X tg (tG X.K X.mg W pr sl b)
abbrev SGs (X : Cx) (W : WX) (tg : List Expr) (sl : List Nat) (b : List PyData → M Unit) : Prop := PGs X tg (tGs X.K X.mg W sl b)
section
variable {X : Cx} {W : WX} {tg : Expr} {tgs : List Expr} {pos : Pos}
theorem weakG {t t' : TG} (h : PG X tg t) (k : ∀ v σ H Q, t' v σ H Q → t v σ H Q) : PG X tg t' := ⟨fun p s σ H v u Q I r q => h.run p s σ H v u Q I r (k v σ H Q q)⟩
theorem weakGs {t t' : TGs} (h : PGs X tgs t) (k : ∀ v σ H Q, t' v σ H Q → t v σ H Q) : PGs X tgs t' := ⟨fun p s σ H v u Q I r q => h.run p s σ H v u Q I r (k v σ H Q q)⟩
theorem sg_name {i : Nat} (h : PG X tg (gName i)) : SG X W false tg [i] (nameM i) := weakG h fun v σ H Q ⟨d, e, G, F, B, s, r, k⟩ => by
  obtain ⟨hi, k⟩ := ok_store k
  have sl : Sl.of ⟨d, false⟩ = .vl d := by cases d <;> rfl
  rw [sl] at k
  refine k _ H G (s.set r) (.refl _) ⟨by simp, fun j hj => ?_⟩
  exact List.getElem?_set_ne (fun z => hj (by simp [z]))
theorem sgs_nil : SGs X W [] [] nilM := weakGs pgs_nil fun vs σ H Q ⟨ds, e, G, F, B, s, r, k⟩ => by
  cases r with
  | nil => exact ⟨rfl, k σ H G s (.refl _) ⟨rfl, fun _ _ => rfl⟩⟩
  | cons _ _ => exact (not_none k).elim
theorem sgs_cons {sl sl' : List Nat} {b : PyData → M Unit} {bs : List PyData → M Unit} (h : SG X W false tg sl b) (hs : SGs X W tgs sl' bs) (he : (assignEach (tg :: tgs) X.env).map (·.2) = assign tg X.env :: (assignEach tgs X.env).map (·.2)) :
    SGs X W (tg :: tgs) (sl ++ sl') (consM b bs) := weakGs (pgs_cons h hs he) fun vs σ H Q ⟨ds, e, G, F, B, s, r, k⟩ => by
  cases r with
  | nil => exact (not_none k).elim
  | cons r rs =>
    refine ⟨_, _, rfl, _, e, G, F, B, s, r, (ok_bind.mp k).imp (fun _ e1 k1 σ1 H1 G1 s1 m1 n1 => ?_) fun _ _ w => w⟩
    refine ⟨_, e1, G1, F, B, s1, rs.up m1, k1.imp (fun _ e2 k2 σ2 H2 G2 s2 m2 n2 => ?_) fun x e' w => w.up m1⟩
    exact k2 σ2 H2 G2 s2 (m1.trans m2) ⟨n2.1.trans n1.1, fun i hi => (n2.2 i fun z => hi (List.mem_append_right _ z)).trans (n1.2 i fun z => hi (List.mem_append_left _ z))⟩
end
end Ev

set_option Elab.async false
set_option linter.all false
set_option maxRecDepth 100000
set_option maxHeartbeats 4000000
/-! EvJ: tuple targets, list comprehensions. -/
namespace Ev
open PySem PySem.Spec L2
section
variable {X : Cx} {W : WX} {tg : Expr} {tgs : List Expr} {pos : Pos}
theorem sg_tup {pr : Bool} {sl : List Nat} {bs : List PyData → M Unit} {k n : Nat} (hc : X.calm = true) (h : SGs X W tgs sl bs) (hn : (assignEach tgs X.env).length = n) (hst : (assignEach tgs X.env).findIdx? (·.1) = none) : SG X W pr (.Tuple tgs k pos) sl (tupT n bs) :=
  weakG (pg_tup hc h hn hst) fun v σ H Q ⟨d, e, G, F, B, s, r, kk⟩ => by
    obtain ⟨ds, rfl⟩ : ∃ ds, d = .tuple ds := by
      cases d with
      | tuple ds => exact ⟨ds, rfl⟩
      | _ => exact (not_none kk).elim
    obtain ⟨a, xs, rfl, h1, h2⟩ : ∃ a xs, v = .ref a ∧ SqT X.K G a xs ∧ RpAll X.K G xs ds := by
      cases pr with
      | true =>
        obtain ⟨a, xs, ds', rfl, e1, h1, h2⟩ := r
        cases e1
        exact ⟨a, xs, rfl, h1, h2⟩
      | false =>
        have r : Rp X.K G v (.tuple ds) := r
        cases r with
        | tup h1 h2 => exact ⟨_, _, rfl, h1.sqT, h2⟩
    have kk : Ok (if ds.length = n then bs ds else liftO none) e _ _ := kk
    split at kk
    · rename_i z
      exact ⟨a, xs, rfl, sqT_same s.sub h1, by rw [h2.len]; exact z, ds, e, G, F, B, s, h2, kk⟩
    · exact (not_none kk).elim
end

/-! ### slots wiped -/
theorem wipeE_len (e : En) : ∀ vs : List Nat, (wipeE e vs).length = e.length
  | [] => rfl
  | v :: vs => by unfold wipeE; rw [List.length_set, wipeE_len e vs]
theorem wipeE_out {e : En} {i : Nat} : ∀ {vs : List Nat}, i ∉ vs → (wipeE e vs)[i]? = e[i]?
  | [], _ => rfl
  | v :: vs, h => by
    unfold wipeE
    rw [List.getElem?_set_ne (fun z => h (by simp [z]))]
    exact wipeE_out fun z => h (List.mem_cons_of_mem _ z)
theorem wipeE_in {e : En} {i : Nat} {x : Sl} : ∀ {vs : List Nat}, (wipeE e vs)[i]? = some x → (i ∈ vs ∧ x = .un) ∨ (i ∉ vs ∧ e[i]? = some x)
  | [], h => .inr ⟨by simp, h⟩
  | v :: vs, h => by
    unfold wipeE at h
    rcases set_get h with ⟨rfl, q⟩ | ⟨ne, q⟩
    · exact .inl ⟨List.mem_cons_self, q⟩
    · rcases wipeE_in q with ⟨m, z⟩ | ⟨m, z⟩
      · exact .inl ⟨List.mem_cons_of_mem _ m, z⟩
      · exact .inr ⟨by simp [ne, m], z⟩
theorem backE_len (e0 e1 : En) : ∀ vs : List Nat, (backE e0 e1 vs).length = e1.length
  | [] => rfl
  | v :: vs => by unfold backE; rw [List.length_set, backE_len e0 e1 vs]
theorem backE_in {e0 e1 : En} {i : Nat} {x : Sl} : ∀ {vs : List Nat}, (backE e0 e1 vs)[i]? = some x → (i ∈ vs ∧ x = e0.getD i .un) ∨ (i ∉ vs ∧ e1[i]? = some x)
  | [], h => .inr ⟨by simp, h⟩
  | v :: vs, h => by
    unfold backE at h
    rcases set_get h with ⟨rfl, q⟩ | ⟨ne, q⟩
    · exact .inl ⟨List.mem_cons_self, q⟩
    · rcases backE_in q with ⟨m, z⟩ | ⟨m, z⟩
      · exact .inl ⟨List.mem_cons_of_mem _ m, z⟩
      · exact .inr ⟨by simp [ne, m], z⟩
theorem wipe_out' {σ : St} {i : Nat} : ∀ {vs : List Nat}, i ∉ vs → (wipe σ vs)[i]? = σ[i]?
  | [], _ => rfl
  | v :: vs, h => by
    unfold wipe
    rw [List.getElem?_set_ne (fun z => h (by simp [z]))]
    exact wipe_out' fun z => h (List.mem_cons_of_mem _ z)
theorem wipe_at {σ : St} {i : Nat} : ∀ {vs : List Nat}, i ∈ vs → i < σ.length → (wipe σ vs)[i]? = some none
  | [], h, _ => by cases h
  | v :: vs, h, l => by
    unfold wipe
    by_cases e : i = v
    · subst e
      exact List.getElem?_set_self (by rw [wipe_length]; exact l)
    · rw [List.getElem?_set_ne (Ne.symm e)]
      exact wipe_at ((List.mem_cons.mp h).resolve_left e) l
theorem wipe_same {σ τ : St} {vs : List Nat} (hl : σ.length = τ.length) (h : ∀ i, i ∉ vs → σ[i]? = τ[i]?) : wipe σ vs = wipe τ vs := by
  apply List.ext_getElem?
  intro i
  by_cases m : i ∈ vs
  · by_cases l : i < σ.length
    · rw [wipe_at m l, wipe_at m (hl ▸ l)]
    · rw [List.getElem?_eq_none (by rw [wipe_length]; omega), List.getElem?_eq_none (by rw [wipe_length]; omega)]
  · rw [wipe_out' m, wipe_out' m]
    exact h i m
theorem wipe_wipe {σ : St} {vs : List Nat} : wipe (wipe σ vs) vs = wipe σ vs := wipe_same (wipe_length σ vs) fun i hi => wipe_out' hi

section
variable {K : PySem.W.Frag} {F : Hp} {B : List (Nat × Addr)} {σ : St} {H : Hp} {e : En} {G : Hp}
/-- the block's own names forgotten -/
theorem SR.drop (s : SR K F B σ H e G) (vs : List Nat) : SR K F B (wipe σ vs) H (wipeE e vs) G := by
  refine ⟨by rw [wipeE_len, wipe_length]; exact s.len, s.sub, s.frm, s.dsj, fun i d q => ?_, fun i b ds q => ?_, fun i j b c ds es p q1 q2 q3 q4 => ?_⟩
  · rcases wipeE_in q with ⟨_, z⟩ | ⟨m, z⟩
    · cases z
    · obtain ⟨v, h1, h2⟩ := s.vls i d z
      exact ⟨v, by rw [wipe_out' m]; exact h1, h2⟩
  · rcases wipeE_in q with ⟨_, z⟩ | ⟨m, z⟩
    · cases z
    · obtain ⟨p, ws, h1, r⟩ := s.ows i b ds z
      exact ⟨p, ws, by rw [wipe_out' m]; exact h1, r⟩
  · rcases wipeE_in q1 with ⟨_, z⟩ | ⟨m, z1⟩
    · cases z
    · rcases wipeE_in q2 with ⟨_, z⟩ | ⟨m2, z2⟩
      · cases z
      · rw [wipe_out' m] at q3
        rw [wipe_out' m2] at q4
        exact s.dis i j b c ds es p z1 z2 q3 q4
/-- the lists of one's own under the block's names -/
def Hid (σ : St) (e : En) (vs : List Nat) (a : Addr) : Prop := ∃ i, i ∈ vs ∧ ∃ b ds, e[i]? = some (.ow b ds) ∧ σ[i]? = some (some (.ref a))
open Classical in
noncomputable def hidF (F : Hp) (σ : St) (H : Hp) (e : En) (vs : List Nat) : Hp := fun a => if Hid σ e vs a then H a else F a
theorem SR.hide (s : SR K F B σ H e G) (vs : List Nat) : SR K (hidF F σ H e vs) B (wipe σ vs) H (wipeE e vs) G := by
  have d := s.drop vs
  refine ⟨d.len, d.sub, fun a o q => ?_, fun a o q => ?_, d.vls, fun i b ds q => ?_, d.dis⟩
  · unfold hidF at q
    split at q
    · exact q
    · exact s.frm a o q
  · unfold hidF at q
    split at q
    · rename_i hh
      obtain ⟨i, _, b, ds, h1, h2⟩ := hh
      obtain ⟨p, ws, k1, k2, _⟩ := s.ows i b ds h1
      rw [h2] at k1
      cases k1
      exact k2
    · exact s.dsj a o q
  · obtain ⟨p, ws, h1, h2, h3, r⟩ := d.ows i b ds q
    refine ⟨p, ws, h1, h2, ?_, r⟩
    unfold hidF
    rcases wipeE_in q with ⟨_, z⟩ | ⟨m, z⟩
    · cases z
    · rw [if_neg]
      · exact h3
      · rintro ⟨j, mj, c, es, k1, k2⟩
        rw [wipe_out' m] at h1
        have := s.dis i j b c ds es p z k1 h1 k2
        exact m (this ▸ mj)
/-- a cell of the frame written -/
theorem SR.frame {D : Addr} {o o' : HO} (s : SR K (upd F D o) B σ H e G) : SR K (upd F D o') B σ (upd H D o') e G := by
  have gD : G D = none := s.dsj D o upd_same
  refine ⟨s.len, fun a u q => ?_, fun a u q => ?_, fun a u q => ?_, s.vls, fun i b ds q => ?_, s.dis⟩
  · rw [upd_ne (ne_of_none q gD)]
    exact s.sub a u q
  · by_cases h : a = D
    · subst h; rw [upd_same] at q ⊢; exact q
    · rw [upd_ne h] at q ⊢
      exact s.frm a u (by rw [upd_ne h]; exact q)
  · by_cases h : a = D
    · subst h; exact gD
    · rw [upd_ne h] at q
      exact s.dsj a u (by rw [upd_ne h]; exact q)
  · obtain ⟨p, ws, h1, h2, h3, h4, r⟩ := s.ows i b ds q
    have ne : p ≠ D := fun z => by rw [z, upd_same] at h3; cases h3
    exact ⟨p, ws, h1, h2, by rw [upd_ne ne] at h3 ⊢; exact h3, by rw [upd_ne ne]; exact h4, r⟩
/-- a new cell into the frame -/
theorem SR.newFr (s : SR K F B σ H e G) {D : Addr} {o : HO} (h : H D = none) : SR K (upd F D o) B σ (upd H D o) e G := by
  have n := s.new (o := o) h
  refine ⟨n.len, n.sub, fun a u q => ?_, fun a u q => ?_, n.vls, fun i b ds q => ?_, n.dis⟩
  · by_cases e : a = D
    · subst e; rw [upd_same] at q ⊢; exact q
    · rw [upd_ne e] at q ⊢; exact s.frm a u q
  · by_cases e : a = D
    · subst e; exact s.newG h
    · rw [upd_ne e] at q; exact s.dsj a u q
  · obtain ⟨p, ws, h1, h2, h3, h4, r⟩ := n.ows i b ds q
    have ne : p ≠ D := fun z => by
      obtain ⟨p', ws', k1, _, _, k4, _⟩ := s.ows i b ds q
      rw [h1] at k1
      cases k1
      rw [z, h] at k4
      cases k4
    exact ⟨p, ws, h1, h2, by rw [upd_ne ne]; exact h3, h4, r⟩
/-- back from a block -/
theorem SR.back {H1 : Hp} {e1 : En} {G1 : Hp} {vs : List Nat} {D : Addr} {o : HO} (s : SR K F B σ H1 e1 G1) (s' : SR K (upd (hidF F σ H1 e1 vs) D o) B (wipe σ vs) H e G) (m : Same G1 G) (hD : H1 D = none) : SR K F B σ H (backE e1 e vs) G := by
  have fD : ∀ a u, a ≠ D → hidF F σ H1 e1 vs a = some u → upd (hidF F σ H1 e1 vs) D o a = some u := fun a u n q => by rw [upd_ne n]; exact q
  have neD : ∀ a u, F a = some u → a ≠ D := fun a u q z => by
    have := s.frm a u q
    rw [z, hD] at this
    cases this
  have inF : ∀ a u, F a = some u → upd (hidF F σ H1 e1 vs) D o a = some u := fun a u q => by
    refine fD a u (neD a u q) ?_
    unfold hidF
    rw [if_neg]
    · exact q
    · rintro ⟨i, _, b, ds, h1, h2⟩
      obtain ⟨p, ws, k1, _, k3, _⟩ := s.ows i b ds h1
      rw [h2] at k1
      cases k1
      rw [k3] at q
      cases q
  have hid : ∀ i b ds, i ∈ vs → e1[i]? = some (.ow b ds) → ∃ p ws, σ[i]? = some (some (.ref p)) ∧ F p = none ∧ p ≠ D ∧ upd (hidF F σ H1 e1 vs) D o p = some (.lst ws) ∧ RpAll K G1 ws ds ∧ (b = true → (i, p) ∈ B) := fun i b ds mi q => by
    obtain ⟨p, ws, k1, k2, k3, k4, k5, k6⟩ := s.ows i b ds q
    have ne : p ≠ D := fun z => by rw [z, hD] at k4; cases k4
    refine ⟨p, ws, k1, k3, ne, fD p _ ne ?_, k5, k6⟩
    unfold hidF
    rw [if_pos ⟨i, mi, b, ds, q, k1⟩]
    exact k4
  have cases_ : ∀ i x, (backE e1 e vs)[i]? = some x → (i ∈ vs ∧ (x = .un ∨ e1[i]? = some x)) ∨ (i ∉ vs ∧ e[i]? = some x) := fun i x q => by
    rcases backE_in q with ⟨mi, z⟩ | z
    · refine .inl ⟨mi, ?_⟩
      rw [List.getD_eq_getElem?_getD] at z
      cases w : e1[i]? with
      | none => rw [w] at z; exact .inl z
      | some y => rw [w] at z; exact .inr (by rw [z]; rfl)
    · exact .inr z
  refine ⟨by rw [backE_len, s'.len, wipe_length], s'.sub, fun a u q => s'.frm a u (inF a u q), fun a u q => s'.dsj a u (inF a u q), fun i d q => ?_, fun i b ds q => ?_, fun i j b c ds es p q1 q2 q3 q4 => ?_⟩
  · rcases cases_ i _ q with ⟨mi, z | z⟩ | ⟨mi, z⟩
    · cases z
    · obtain ⟨v, h1, h2⟩ := s.vls i d z
      exact ⟨v, h1, h2.up m⟩
    · obtain ⟨v, h1, h2⟩ := s'.vls i d z
      exact ⟨v, by rw [wipe_out' mi] at h1; exact h1, h2⟩
  · rcases cases_ i _ q with ⟨mi, z | z⟩ | ⟨mi, z⟩
    · cases z
    · obtain ⟨p, ws, h1, h2, h3, h4, h5, h6⟩ := hid i b ds mi z
      exact ⟨p, ws, h1, s'.dsj p _ h4, h2, s'.frm p _ h4, h5.up m, h6⟩
    · obtain ⟨p, ws, h1, h2, h3, h4, h5, h6⟩ := s'.ows i b ds z
      rw [wipe_out' mi] at h1
      refine ⟨p, ws, h1, h2, ?_, h4, h5, h6⟩
      cases w : F p with
      | none => rfl
      | some u => rw [inF p u w] at h3; cases h3
  · rcases cases_ i _ q1 with ⟨mi, z | z⟩ | ⟨mi, z⟩
    · cases z
    · rcases cases_ j _ q2 with ⟨mj, w | w⟩ | ⟨mj, w⟩
      · cases w
      · exact s.dis i j b c ds es p z w q3 q4
      · obtain ⟨p', ws, h1, _, h3, h4, _⟩ := hid i b ds mi z
        rw [q3] at h1
        cases h1
        obtain ⟨p'', ws', k1, _, k3, _⟩ := s'.ows j c es w
        rw [wipe_out' mj, q4] at k1
        cases k1
        rw [k3] at h4
        cases h4
    · rcases cases_ j _ q2 with ⟨mj, w | w⟩ | ⟨mj, w⟩
      · cases w
      · obtain ⟨p', ws, h1, _, h3, h4, _⟩ := hid j c es mj w
        rw [q4] at h1
        cases h1
        obtain ⟨p'', ws', k1, _, k3, _⟩ := s'.ows i b ds z
        rw [wipe_out' mi, q3] at k1
        cases k1
        rw [k3] at h4
        cases h4
      · exact s'.dis i j b c ds es p z w (by rw [wipe_out' mi]; exact q3) (by rw [wipe_out' mj]; exact q4)
end

/-! ### list comprehensions -/
def W0 : WX := fun _ _ _ _ => False
/-- one turn: what it gives, if anything -/
def turnM (bt : PyData → M Unit) (mc : M Bool) (me : M RV) (d : PyData) : M (Option PyData) := do
  bt d
  let b ← mc
  if b then do
    let r ← me
    pure (some r.d)
  else pure none
def lcGo (own : List Nat) (step : PyData → M (Option PyData)) : List PyData → En → List PyData → Option (List PyData × En)
  | [], e, acc => some (acc, e)
  | d :: ds, e, acc => match step d e with
    | some (.ok none e') => lcGo own step ds (wipeE e' own) acc
    | some (.ok (some y) e') => if acc.length < most then lcGo own step ds (wipeE e' own) (acc ++ [y]) else none
    | _ => none
def lcRun (own : List Nat) (step : PyData → M (Option PyData)) (items : List PyData) : M RV := fun e => (lcGo own step items (wipeE e own) []).map fun p => .ok ⟨.list p.1, true⟩ (backE e p.2 own)
theorem ok_lcRun {own : List Nat} {step : PyData → M (Option PyData)} {items : List PyData} {e : En} {P : RV → En → Prop} {W : Exn → En → Prop} (h : Ok (lcRun own step items) e P W) : ∃ ds e2, lcGo own step items (wipeE e own) [] = some (ds, e2) ∧ P ⟨.list ds, true⟩ (backE e e2 own) := by
  unfold Ok lcRun at h
  cases z : lcGo own step items (wipeE e own) [] with
  | none => simp [z] at h
  | some r => simp [z] at h; exact ⟨r.1, r.2, rfl, h⟩
def lcM (own : List Nat) (mi : M (List PyData)) (step : PyData → M (Option PyData)) : M RV := do
  let items ← mi
  lcRun own step items
section
variable {X : Cx} {W : WX}
theorem we0 {K : PySem.W.Frag} {mg : Str → Option Value} {F : Hp} {B : List (Nat × Addr)} {G : Hp} {x : Exn} {e : En} : True := trivial
/-- a run that does not raise -/
theorem ok_of {α : Type} {m : M α} {e e' : En} {a : α} {P : α → En → Prop} {Wx : Exn → En → Prop} (q : m e = some (.ok a e')) (h : P a e') : Ok m e P Wx := by
  unfold Ok
  rw [q]
  exact h
theorem bind_some {α β : Type} {m : M α} {f : α → M β} {e e' : En} {b : β} (h : (m >>= f) e = some (.ok b e')) : ∃ a e1, m e = some (.ok a e1) ∧ f a e1 = some (.ok b e') := by
  have h : M.bnd m f e = some (.ok b e') := h
  unfold M.bnd at h
  split at h
  · cases h
  · rename_i a e1 q
    exact ⟨a, e1, q, h⟩
  · cases h
theorem t_lc {pr : Bool} {own sl : List Nat} {mi : M (List PyData)} {bt : PyData → M Unit} {mc : M Bool} {me : M RV} (hsl : ∀ i ∈ sl, i ∈ own) {σ : St} {H : Hp} {Q : VK} (q : tV X.K X.mg W (lcM own mi (turnM bt mc me)) σ H Q) :
    tLc (tI X.K X.mg W pr mi) (tG X.K X.mg W0 pr sl bt) (tBo X.K X.mg W0 mc) (tV X.K X.mg W0 me) own σ H Q := by
  obtain ⟨e0, G0, F, B, s0, k⟩ := q
  refine ⟨e0, G0, F, B, s0, (ok_bind.mp k).imp (fun items e1 k1 J H1 G1 s1 m1 it => ?_) fun _ _ w => w⟩
  intro D hD
  obtain ⟨ds, e2, hgo, kP⟩ := ok_lcRun k1
  let Pv : Nat → Hp → Prop := fun i H => ∃ e G acc accD, SR X.K (upd (hidF F σ H1 e1 own) D (.lst acc)) B (wipe σ own) H e G ∧ Same G1 G ∧ RpAll X.K G acc accD ∧ lcGo own (turnM bt mc me) (items.drop i) e accD = some (ds, e2)
  refine ⟨fun i m H => m = items.length - i ∧ i ≤ items.length ∧ Pv i H, ⟨_, rfl, Nat.zero_le _, wipeE e1 own, G1, [], [], (s1.hide own).newFr hD, .refl _, .nil, hgo⟩, ?_⟩
  rintro i m H ⟨rfl, hi, e, G, acc, accD, s, sm, ra, go⟩
  by_cases hlt : i < items.length
  · refine .inr ⟨it.go i H hlt (sm.trans s.sub), fun H => Pv (i + 1) H, fun H' p => ⟨_, by omega, rfl, hlt, p⟩, fun x H' y => ?_⟩
    obtain ⟨d, hd, hy⟩ := it.yld i H x H' hlt (sm.trans s.sub) y
    have hx : ∃ G', SR X.K (upd (hidF F σ H1 e1 own) D (.lst acc)) B (wipe σ own) H' e G' ∧ Same G G' ∧ RpP X.K pr G' x d := by
      rcases hy with ⟨rfl, rfl, r⟩ | ⟨p, vs, es, rfl, hp, rfl, rfl, rfl, r⟩
      · exact ⟨G, s, .refl _, r.up sm⟩
      · obtain ⟨s', m', r'⟩ := s.pair (r.up sm) hp
        exact ⟨_, s', m', r'⟩
    obtain ⟨G', s', m', r'⟩ := hx
    have dr : items.drop i = d :: items.drop (i + 1) := by
      rw [List.drop_eq_getElem_cons hlt]
      congr 1
      rw [List.getElem?_eq_getElem hlt] at hd
      exact Option.some.inj hd
    rw [dr] at go
    unfold lcGo at go
    cases st : turnM bt mc me d e with
    | none => rw [st] at go; cases go
    | some rs =>
      cases rs with
      | ex x e' => rw [st] at go; cases go
      | ok o e5 =>
        rw [st] at go
        obtain ⟨_, e3, q1, q2⟩ := bind_some (m := bt d) st
        obtain ⟨b, e4, q3, q4⟩ := bind_some (m := mc) q2
        refine ⟨d, e, G', _, B, s', r', ok_of q1 fun σ2 H2 G2 s2 m2 n2 => ⟨?_, e3, G2, _, B, s2, ok_of q3 fun H3 G3 s3 m3 => ?_⟩⟩
        · rw [wipe_same (σ := σ2) (τ := wipe σ own) n2.1 fun i hi => n2.2 i fun z => hi (hsl i z)]
          exact wipe_wipe
        · have wσ : wipe σ2 own = wipe σ own := by
            rw [wipe_same (σ := σ2) (τ := wipe σ own) n2.1 fun i hi => n2.2 i fun z => hi (hsl i z)]
            exact wipe_wipe
          have m03 : Same G1 G3 := (((sm.trans m').trans m2).trans m3)
          have fin : ∀ {H6 : Hp} {e6 : En} {G6 : Hp} {acc' : List V}, SR X.K (upd (hidF F σ H1 e1 own) D (.lst acc')) B σ2 H6 e6 G6 → SR X.K (upd (hidF F σ H1 e1 own) D (.lst acc')) B (wipe σ own) H6 (wipeE e6 own) G6 := fun s6 => by
            rw [← wσ]
            exact s6.drop own
          cases b with
          | false =>
            have q4 : (pure none : M (Option PyData)) e4 = some (.ok o e5) := q4
            cases q4
            exact iteF ⟨_, G3, acc, accD, fin s3, m03, ra.up ((m'.trans m2).trans m3), go⟩
          | true =>
            obtain ⟨r, e6, q5, q6⟩ := bind_some (m := me) q4
            cases q6
            have go : (if accD.length < most then lcGo own (turnM bt mc me) (items.drop (i + 1)) (wipeE e5 own) (accD ++ [r.d]) else none) = some (ds, e2) := go
            split at go
            · rename_i hz
              refine iteT ⟨e4, G3, _, B, s3, ok_of q5 fun y H4 G4 s4 m4 rr => ?_⟩
              obtain ⟨G5, s5, m5, r5⟩ := rr.freeze s4
              refine ⟨acc, s5.frm D _ upd_same, ?_, ?_⟩
              · rw [ra.len]
                exact Nat.lt_of_lt_of_le hz (by decide)
              · exact ⟨_, G5, acc ++ [y], accD ++ [r.d], (fin s5).frame, (m03.trans m4).trans m5, (ra.up ((((m'.trans m2).trans m3).trans m4).trans m5)).app (.cons r5 .nil), go⟩
            · cases go
  · have hin : i = items.length := by omega
    subst hin
    rw [List.drop_length] at go
    have go : some (accD, e) = some (ds, e2) := go
    cases go
    have sb := s1.back s sm hD
    refine .inl ⟨it.stop H (sm.trans s.sub), kP _ H G sb (m1.trans sm) ⟨D, acc, ds, rfl, rfl, s.dsj D _ upd_same, s1.newF hD, s.frm D _ upd_same, ra, fun j b es q z => ?_⟩⟩
    obtain ⟨p, ws, h1, h2, h3, h4, _⟩ := sb.ows j b es q
    rw [z] at h1
    cases h1
    rcases backE_in q with ⟨mj, w⟩ | ⟨mj, w⟩
    · rw [List.getD_eq_getElem?_getD] at w
      cases w1 : e1[j]? with
      | none => rw [w1] at w; cases w
      | some x =>
        rw [w1] at w
        have w : x = .ow b es := w.symm
        subst w
        obtain ⟨p, ws, k1, k2, k3, k4, _⟩ := s1.ows j b es w1
        rw [z] at k1
        cases k1
        rw [hD] at k4
        cases k4
    · obtain ⟨p, ws, k1, k2, k3, _⟩ := s.ows j b es w
      rw [wipe_out' mj, z] at k1
      cases k1
      rw [upd_same] at k3
      cases k3
end
end Ev

set_option Elab.async false
set_option linter.all false
set_option maxRecDepth 100000
set_option maxHeartbeats 4000000
/-! EvK: methods of values (index), mutating methods, statements. -/
namespace Ev
open PySem PySem.Spec L2

/-! ### x.index(y) -/
section
variable {X : Cx} {W : WX}
/-- a method of a value whose type is told by the datum -/
def TyD (K : PySem.W.Frag) (T : String) (x : V) (H : Hp) : Prop := tyV K T x H ∨ (T = "tuple" ∧ ∃ a xs, x = .ref a ∧ TupR K H a xs)
theorem tyD_is {pins : List (Addr × Obj)} {σ : St} {H : Hp} {s : Shared} {T : String} {x : V} {v : Value} (I : Inv X pins σ H s) (r : RelV x v) (ty : TyD X.K T x H) :
    s.TypeIs v T ∧ ∀ a, v = .ref a → ∃ ob, s.heap.get? a = some ob ∧ ob.dict = none := by
  rcases ty with ty | ⟨rfl, a, xs, rfl, h⟩
  · exact tyV_is I r ty
  · cases r
    rcases h with ⟨o, h, d⟩ | ⟨o, its, n, h1, h2, d, _⟩
    · obtain ⟨e, _, _, _, o', e', c, _⟩ := I.hok a _ h
      rw [e] at e'
      cases e'
      exact ⟨⟨o, e, c⟩, fun b z => by cases z; exact ⟨o, e, d⟩⟩
    · exact ⟨⟨o, I.kIn a o h1, h2⟩, fun b z => by cases z; exact ⟨o, I.kIn _ o h1, d⟩⟩
def tMD (K : PySem.W.Frag) (T : String) (r : V → List V → Hp → VK → Prop) (to : TE) (t : TA) : TE := fun σ H Q => to σ H fun x H1 => TyD K T x H1 ∧ t σ H1 fun xs H2 => r x xs H2 Q
variable {o e : Expr} {es : List Expr} {to : TE} {t : TA} {name : Str} {apos cpos : Pos} {T id : String} {r : V → List V → Hp → VK → Prop}
/-- what the call of a method asks of its text -/
structure MOk (X : Cx) (o : Expr) (name : Str) (e : Expr) (es : List Expr) (apos cpos : Pos) : Prop where
  base : attributeBase o name X.env (eval o X.env) = eval o X.env
  few : ((backTo cpos (starEach (e :: es) X.env)).all (fun x => !x.1) && (backToKw cpos (keywordEach [] X.env)).all (fun x => x.1.isSome) && decide ((e :: es).length + ([] : List Keyword).length + (if ([] : List Keyword).isEmpty then 0 else 1) < 30)) = true
  line : (apos.endLine == cpos.line) = true
  star : starEach (e :: es) X.env = (false, eval e X.env) :: starEach es X.env
  plain : (backTo cpos (starEach es X.env)).any (·.1) = false
theorem pe_md (pa : PlainAttrs T) (slot : Slot T name id) (hty : typeOf (.builtin id) = pure (.type "method_descriptor")) (hm : MtR X id r) (ho : PE X o to) (ha : PA X (e :: es) t) (k : MOk X o name e es apos cpos) :
    PE X (.Call (.Attribute o name apos) (e :: es) [] cpos) (tMD X.K T r to t) := by
  refine ⟨fun pins s σ H Q I h => ?_⟩
  refine wpAny_Call_method_late k.base k.few k.line rfl (thn (ho.run pins s σ H _ I h) fun v s1 ⟨x, H1, I1, r1, ty, q1⟩ => ?_)
  obtain ⟨h1, h2⟩ := tyD_is I1 r1 ty
  refine ⟨T, id, pa, slot, hty, h1, h2, ?_⟩
  have hA := ha.run cpos pins s1 σ H1 _ I1 q1
  have hs := k.star
  rw [hs] at hA ⊢
  refine Calls.callWith_builtin ?_ (Calls.evalArgs_plain ?_)
  · show (false || (backTo cpos (starEach es X.env)).any (·.1)) = false
    rw [k.plain]
    rfl
  · exact thn hA fun us s2 ⟨vs, H2, I2, r2, q2⟩ => hm pins s2 σ H2 x vs v us Q I2 r1 r2 q2
/-- t.index(y), ints -/
def rIndexT (K : PySem.W.Frag) : V → List V → Hp → VK → Prop := fun x xs H Q => ∃ (a : Addr) (ns : List Int) (k : Int), x = .ref a ∧ xs = [.int k] ∧ SqT K H a (ns.map V.int) ∧ k ∈ ns ∧ Q (.int (ns.idxOf k : Nat)) H
theorem mt_indexT : MtR X "tuple.index" (rIndexT X.K) := by
  intro pins s σ H x xs v us Q I rx rxs ⟨a, ns, k, ex, exs, hs, hk, q⟩
  subst ex exs
  cases rx
  obtain ⟨u, rfl, t, rfl⟩ := Vals.one rxs
  obtain ⟨its, rv, p, _⟩ := I.tuple hs
  exact SeqAt.call_tuple_index p (SeqAt.ItemsEq.ints rv.ints) hk ⟨.int _, H, I.tok _, ⟨_, rfl⟩, q⟩
/-- the same name, a method of two types -/
def tMD2 (K : PySem.W.Frag) (T T' : String) (r r' : V → List V → Hp → VK → Prop) (to : TE) (t : TA) : TE := fun σ H Q => to σ H fun x H1 => (TyD K T x H1 ∧ t σ H1 fun xs H2 => r x xs H2 Q) ∨ (TyD K T' x H1 ∧ t σ H1 fun xs H2 => r' x xs H2 Q)
theorem pe_md2 {T' id' : String} {r' : V → List V → Hp → VK → Prop} (pa : PlainAttrs T) (slot : Slot T name id) (hty : typeOf (.builtin id) = pure (.type "method_descriptor")) (hm : MtR X id r) (pa' : PlainAttrs T') (slot' : Slot T' name id') (hty' : typeOf (.builtin id') = pure (.type "method_descriptor")) (hm' : MtR X id' r')
    (ho : PE X o to) (ha : PA X (e :: es) t) (k : MOk X o name e es apos cpos) : PE X (.Call (.Attribute o name apos) (e :: es) [] cpos) (tMD2 X.K T T' r r' to t) := by
  refine ⟨fun pins s σ H Q I h => ?_⟩
  refine wpAny_Call_method_late k.base k.few k.line rfl (thn (ho.run pins s σ H _ I h) fun v s1 ⟨x, H1, I1, r1, alt⟩ => ?_)
  have hs := k.star
  have hp : (false || (backTo cpos (starEach es X.env)).any (·.1)) = false := by
    rw [k.plain]
    rfl
  rcases alt with ⟨ty, q1⟩ | ⟨ty, q1⟩
  · obtain ⟨h1, h2⟩ := tyD_is I1 r1 ty
    refine ⟨T, id, pa, slot, hty, h1, h2, ?_⟩
    have hA := ha.run cpos pins s1 σ H1 _ I1 q1
    rw [hs] at hA ⊢
    exact Calls.callWith_builtin hp (Calls.evalArgs_plain (thn hA fun us s2 ⟨vs, H2, I2, r2, q2⟩ => hm pins s2 σ H2 x vs v us Q I2 r1 r2 q2))
  · obtain ⟨h1, h2⟩ := tyD_is I1 r1 ty
    refine ⟨T', id', pa', slot', hty', h1, h2, ?_⟩
    have hA := ha.run cpos pins s1 σ H1 _ I1 q1
    rw [hs] at hA ⊢
    exact Calls.callWith_builtin hp (Calls.evalArgs_plain (thn hA fun us s2 ⟨vs, H2, I2, r2, q2⟩ => hm' pins s2 σ H2 x vs v us Q I2 r1 r2 q2))
def idxOfD (d : PyData) : List PyData → Nat → Option Nat
  | [], _ => none
  | x :: xs, j => if PyData.eqv x d = true then some j else idxOfD d xs (j + 1)
def isLst : PyData → Bool
  | .list _ => true
  | _ => false
def indexD : PyData → PyData → Option RV
  | .list ds, d => if SeqAt.shaped (.list ds) = true ∧ SeqAt.shaped d = true then (idxOfD d ds 0).map fun j => ⟨.int (j : Nat), false⟩ else none
  | .tuple ds, .int k => match intsOf ds with
    | some ns => if k ∈ ns then lit (.int (ns.idxOf k : Nat)) else none
    | none => none
  | _, _ => none
theorem idxOfD_some {d : PyData} : ∀ {ds : List PyData} {n j : Nat}, idxOfD d ds n = some j → ∃ i z, j = n + i ∧ ds[i]? = some z ∧ PyData.eqv z d = true ∧ ∀ (m : Nat) (z' : PyData), m < i → ds[m]? = some z' → PyData.eqv z' d = false
  | [], _, _, h => by cases h
  | x :: xs, n, j, h => by
    unfold idxOfD at h
    split at h
    · rename_i q
      cases h
      exact ⟨0, x, rfl, rfl, q, fun m z' hm => by omega⟩
    · rename_i q
      obtain ⟨i, z, e1, e2, e3, e4⟩ := idxOfD_some h
      refine ⟨i + 1, z, by omega, by simpa using e2, e3, fun m z' hm hz => ?_⟩
      cases m with
      | zero => simp at hz; subst hz; simpa using q
      | succ m => exact e4 m z' (by omega) (by simpa using hz)
def indexM (ma mb : M OV) : M RV := do
  let x ← ma
  let d0 ← der x
  let _ ← liftO (if isLst d0 = true ∨ d0.isTuple = true then some () else none)
  let y ← mb
  let d ← der x
  let e ← der y
  liftO (if isLst d0 = isLst d ∧ d0.isTuple = d.isTuple then indexD d e else none)
theorem sv_index {a b : Expr} {ma mb : M OV} (hu : X.A.units + 100 < cLine) (ha : SO X W a ma) (hb : SO X W b mb) (k : MOk X a "index" b [] apos cpos) (h1 : starEach [b] X.env = (false, eval b X.env) :: starEach [] X.env) :
    SV X W (.Call (.Attribute a "index" apos) [b] [] cpos) (indexM ma mb) :=
  weakE (pe_md2 PySem.F.plainAttrs_list PySem.F.slot_list_index PySem.F.type_list_index (mt_indexD (by omega)) PySem.F.plainAttrs_tuple PySem.F.slot_tuple_index PySem.F.type_tuple_index mt_indexT ha (pa_cons hb pa_nil h1) k) fun σ H Q ⟨en, G, F, B, s, kk⟩ => by
    refine ⟨en, G, F, B, s, (ok_bind.mp kk).imp (fun ox e1 k1 x H1 G1 s1 m1 r1 => ?_) fun _ _ w => w⟩
    obtain ⟨d0, hd0, k2⟩ := s1.der r1 (ok_bind.mp k1)
    obtain ⟨_, kind, k2⟩ := ok_liftO.mp (ok_bind.mp k2)
    have kind : isLst d0 = true ∨ d0.isTuple = true := by
      split at kind
      · assumption
      · cases kind
    have rest : ∀ (P : V → V → Hp → Prop), (∀ y H2 e2 G2 d e res, SR X.K F B σ H2 e2 G2 → Dw X.K G2 H2 x d → Dw X.K G2 H2 y e → isLst d0 = isLst d → d0.isTuple = d.isTuple → indexD d e = some res → Post X.K F B σ e2 G2 res Q → P x y H2) → tO X.K X.mg W mb σ H1 fun y H2 => P x y H2 := fun P hP => by
      refine ⟨e1, G1, F, B, s1, (ok_bind.mp k2).imp (fun oy e2 k3 y H2 G2 s2 m2 r2 => ?_) fun _ _ w => w.up m1⟩
      obtain ⟨d, hd, k4⟩ := s2.der (r1.up m2) (ok_bind.mp k3)
      obtain ⟨e, he, k5⟩ := s2.der r2 (ok_bind.mp k4)
      obtain ⟨res, hr, k6⟩ := ok_liftO.mp k5
      split at hr
      · rename_i z
        exact hP y H2 e2 G2 d e res s2 hd he z.1 z.2 hr fun v H' G' s' m' rr => k6 v H' G' s' ((m1.trans m2).trans m') rr
      · cases hr
    by_cases hl : isLst d0 = true
    · refine .inl ⟨?_, ?_⟩
      · cases d0 <;> try cases hl
        obtain ⟨p, vs, rfl, q1, q2⟩ := hd0.lst s1.sub
        exact .inl (.inl ⟨rfl, vs, q1.sqL⟩)
      · refine rest (fun x y H2 => rIndexD X.K x [y] H2 Q) fun y H2 e2 G2 d e res s2 hd he z1 z2 hr po => ?_
        rw [hl] at z1
        cases d <;> try cases z1
        rename_i ds
        have hr : (if SeqAt.shaped (.list ds) = true ∧ SeqAt.shaped e = true then (idxOfD e ds 0).map fun j => (⟨.int (j : Nat), false⟩ : RV) else none) = some res := hr
        split at hr
        · rename_i z
          cases w : idxOfD e ds 0 with
          | none => rw [w] at hr; cases hr
          | some j =>
            rw [w] at hr
            cases hr
            obtain ⟨i, z', e1', e2', e3', e4'⟩ := idxOfD_some w
            obtain rfl : j = i := by omega
            obtain ⟨p, vs, rfl, q1, q2⟩ := hd.lst s2.sub
            exact ⟨p, y, e, ds, j, z', rfl, rfl, rp_dp _ _ (hd.rp s2.sub), rp_dp _ _ (he.rp s2.sub), z.1, z.2, e2', e3', e4', po.rp s2 (.int _)⟩
        · cases hr
    · by_cases ht : d0.isTuple = true
      · refine .inr ⟨?_, ?_⟩
        · cases d0 <;> try cases ht
          obtain ⟨p, vs, rfl, q1, q2⟩ := hd0.tup s1.sub
          exact .inr ⟨rfl, p, vs, rfl, q1⟩
        · refine rest (fun x y H2 => rIndexT X.K x [y] H2 Q) fun y H2 e2 G2 d e res s2 hd he z1 z2 hr po => ?_
          rw [ht] at z2
          cases d <;> try cases z2
          rename_i ds
          cases e <;> try cases hr
          rename_i kk
          have hr : (match intsOf ds with | some ns => if kk ∈ ns then lit (.int (ns.idxOf kk : Nat)) else none | none => none) = some res := hr
          split at hr
          · rename_i ns w
            split at hr
            · rename_i hm
              cases hr
              cases he.int
              have e1 := intsOf_eq w
              subst e1
              obtain ⟨p, vs, rfl, q1, q2⟩ := hd.tup s2.sub
              have e2 := q2.ints
              subst e2
              exact ⟨p, ns, kk, rfl, rfl, q1.sqT, hm, po.rp s2 (.int _)⟩
            · cases hr
          · cases hr
      · exact (kind.elim hl ht).elim
end
end Ev

set_option Elab.async false
set_option linter.all false
set_option maxRecDepth 100000
set_option maxHeartbeats 4000000
/-! EvL: statements. -/
namespace Ev
open PySem PySem.Spec L2

inductive Fl where
  | nx | rt (r : RV) | bk | ct
def FlP (K : PySem.W.Frag) (F : Hp) (B : List (Nat × Addr)) (G : Hp) (D : Ends) : Fl → En → Prop
  | .nx, e' => ∀ σ' H' G', SR K F B σ' H' e' G' → Same G G' → D.nx σ' H'
  | .rt r, e' => ∀ v σ' H' G', SR K F B σ' H' e' G' → Same G G' → RR K F σ' H' e' G' v r → D.rt v H'
  | .bk, e' => ∀ σ' H' G', SR K F B σ' H' e' G' → Same G G' → D.bk σ' H'
  | .ct, e' => ∀ σ' H' G', SR K F B σ' H' e' G' → Same G G' → D.ct σ' H'
theorem FlP.up {K : PySem.W.Frag} {F : Hp} {B : List (Nat × Addr)} {G G' : Hp} {D : Ends} (s : Same G G') : ∀ {f : Fl} {e : En}, FlP K F B G D f e → FlP K F B G' D f e
  | .nx, _, h => fun σ' H' G2 a b => h σ' H' G2 a (s.trans b)
  | .rt r, _, h => fun v σ' H' G2 a b c => h v σ' H' G2 a (s.trans b) c
  | .bk, _, h => fun σ' H' G2 a b => h σ' H' G2 a (s.trans b)
  | .ct, _, h => fun σ' H' G2 a b => h σ' H' G2 a (s.trans b)
def tS (K : PySem.W.Frag) (mg : Str → Option Value) (W : WX) (m : M Fl) : TS := fun D σ H => ∃ e G F B, SR K F B σ H e G ∧ Ok m e (FlP K F B G D) (WE K mg W F B G)
abbrev SS (X : Cx) (W : WX) (st : Stmt) (m : M Fl) : Prop := PS X st (tS X.K X.mg W m)
abbrev SSs (X : Cx) (W : WX) (st : List Stmt) (m : M Fl) : Prop := PSs X st (tS X.K X.mg W m)
@[simp] def thenM (m : M Fl) (ms : M Fl) : M Fl := do
  let f ← m
  match f with
  | .nx => ms
  | f => pure f
section
variable {X : Cx} {W : WX} {st : Stmt} {sts a b : List Stmt} {e c : Expr} {pos : Pos}
theorem ss_nil : SSs X W [] (pure .nx) := weakSs pss_nil fun D σ H ⟨en, G, F, B, s, k⟩ => k σ H G s (.refl _)
theorem ss_cons {m ms : M Fl} (h : SS X W st m) (hs : SSs X W sts ms) : SSs X W (st :: sts) (thenM m ms) := weakSs (pss_cons h hs) fun D σ H ⟨en, G, F, B, s, k⟩ => by
  refine ⟨en, G, F, B, s, (ok_bind.mp k).imp (fun f e1 k1 => ?_) fun _ _ w => w⟩
  cases f with
  | nx => exact fun σ1 H1 G1 s1 m1 => ⟨e1, G1, F, B, s1, Ok.imp (show Ok ms e1 _ _ from k1) (fun f e2 k2 => k2.up m1) fun _ _ w => w.up m1⟩
  | rt r => exact k1
  | bk => exact k1
  | ct => exact k1
@[simp] def passM : M Fl := pure .nx
theorem ss_pass : SS X W (.Pass pos) passM := weakS ps_pass fun D σ H ⟨en, G, F, B, s, k⟩ => k σ H G s (.refl _)
theorem ss_break : SS X W (.Break pos) (pure .bk) := weakS ps_break fun D σ H ⟨en, G, F, B, s, k⟩ => k σ H G s (.refl _)
theorem ss_cont : SS X W (.Continue pos) (pure .ct) := weakS ps_continue fun D σ H ⟨en, G, F, B, s, k⟩ => k σ H G s (.refl _)
@[simp] def retM (m : M RV) : M Fl := do
  let r ← m
  pure (.rt r)
theorem ss_ret {m : M RV} (h : SV X W e m) : SS X W (.Return (some e) pos) (retM m) := weakS (ps_ret h) fun D σ H ⟨en, G, F, B, s, k⟩ =>
  ⟨en, G, F, B, s, (ok_bind.mp k).imp (fun r e1 k1 v H1 G1 s1 m1 rr => k1 v σ H1 G1 s1 m1 rr) fun _ _ w => w⟩
/-- a name returned -/
theorem ss_retv {i : Nat} (h : PE X e (tVar i)) : SS X W (.Return (some e) pos) (retM (readR i)) := weakS (ps_ret h) fun D σ H ⟨en, G, F, B, s, k⟩ => by
  have k := ok_bind.mp k
  unfold Ok readR at k
  cases q : en[i]? with
  | none => rw [q] at k; exact k.elim
  | some x =>
    rw [q] at k
    cases x with
    | un => exact k.elim
    | vl d =>
      obtain ⟨v, h1, h2⟩ := s.vls i d q
      exact ⟨v, h1, k v σ H G s (.refl _) h2⟩
    | ow b ds =>
      cases b with
      | true => exact k.elim
      | false =>
        obtain ⟨p, vs, h1, h2, h3, h4, h5, h6⟩ := s.ows i false ds q
        have lost : SR X.K F B σ H (en.set i .un) G := by
          refine ⟨by simpa using s.len, s.sub, s.frm, s.dsj, fun j d r => ?_, fun j c es r => ?_, fun j l c c' es fs p' r1 r2 r3 r4 => ?_⟩
          · rcases set_get r with ⟨_, z⟩ | ⟨_, z⟩
            · cases z
            · exact s.vls j d z
          · rcases set_get r with ⟨_, z⟩ | ⟨_, z⟩
            · cases z
            · exact s.ows j c es z
          · rcases set_get r1 with ⟨_, z⟩ | ⟨_, z⟩
            · cases z
            · rcases set_get r2 with ⟨_, z'⟩ | ⟨_, z'⟩
              · cases z'
              · exact s.dis j l c c' es fs p' z z' r3 r4
        refine ⟨_, h1, k _ σ H G lost (.refl _) ⟨p, vs, ds, rfl, rfl, h2, h3, h4, h5, fun j c es r z => ?_⟩⟩
        rcases set_get r with ⟨_, w⟩ | ⟨ne, w⟩
        · cases w
        · exact ne (s.dis j i c false es ds p w q z h1)
@[simp] def retN : M Fl := pure (.rt ⟨.none, false⟩)
theorem ss_retN : SS X W (.Return none pos) retN := weakS ps_retN fun D σ H ⟨en, G, F, B, s, k⟩ => k .non σ H G s (.refl _) .non
@[simp] def dropM (m : M RV) : M Fl := do
  let _ ← m
  pure .nx
theorem ss_expr {m : M RV} (h : SV X W e m) (hs : swapsWith e none pos.line X.env = pure false) : SS X W (.Expr e pos) (dropM m) := weakS (ps_expr h hs) fun D σ H ⟨en, G, F, B, s, k⟩ =>
  ⟨en, G, F, B, s, (ok_bind.mp k).imp (fun r e1 k1 v H1 G1 s1 m1 rr => k1 σ H1 G1 s1 m1) fun _ _ w => w⟩
@[simp] def ifM (mc : M Bool) (ma mb : M Fl) : M Fl := do
  let b ← mc
  if b then ma else mb
theorem ss_if {mc : M Bool} {ma mb : M Fl} (hc : SB X W c mc) (ha : SSs X W a ma) (hb : SSs X W b mb) : SS X W (.If c a b pos) (ifM mc ma mb) := weakS (ps_if hc ha hb) fun D σ H ⟨en, G, F, B, s, k⟩ => by
  refine ⟨en, G, F, B, s, (ok_bind.mp k).imp (fun b e1 k1 H1 G1 s1 m1 => ?_) fun _ _ w => w⟩
  cases b with
  | true => exact iteT ⟨e1, G1, F, B, s1, Ok.imp (show Ok ma e1 _ _ from k1) (fun f e2 k2 => k2.up m1) fun _ _ w => w.up m1⟩
  | false => exact iteF ⟨e1, G1, F, B, s1, Ok.imp (show Ok mb e1 _ _ from k1) (fun f e2 k2 => k2.up m1) fun _ _ w => w.up m1⟩
/-! assignments -/
@[simp] def setM (i : Nat) (m : M RV) : M Fl := do
  let r ← m
  store i r
  pure .nx
theorem t_set {i : Nat} {m : M RV} {t : TE} (ht : ∀ σ H Q, tV X.K X.mg W m σ H Q → t σ H Q) {D : Ends} {σ : St} {H : Hp} (q : tS X.K X.mg W (setM i m) D σ H) : tAsg t (gName i) D σ H := by
  obtain ⟨en, G, F, B, s, k⟩ := q
  refine ht σ H _ ⟨en, G, F, B, s, (ok_bind.mp k).imp (fun r e1 k1 v H1 G1 s1 m1 rr => ?_) fun _ _ w => w⟩
  obtain ⟨_, k2⟩ := ok_store (ok_bind.mp k1)
  exact k2 _ H1 G1 (s1.store rr) m1
theorem ss_set {i : Nat} {x : Str} {m : M RV} {pos' : Pos} (hN : X.N.Nodup) (hi : X.N[i]? = some x) (hx : Loc X.env.scope x) (h : SV X W e m) (hs : swapsWith e (some (.Name x pos')) pos.line X.env = pure false) (hf : X.fn x = true ∨ X.env.scope.names.lookup x = some .local) :
    SS X W (.Assign [.Name x pos'] e pos) (setM i m) := weakS (ps_set hN hi hx h hs hf) fun D σ H q => t_set (fun _ _ _ q => q) q
@[simp] def bindM (m : M RV) (b : PyData → M Unit) : M Fl := do
  let r ← m
  b r.d
  pure .nx
theorem ss_bind {tg : Expr} {sl : List Nat} {m : M RV} {b : PyData → M Unit} (h : SV X W e m) (hg : SG X W false tg sl b) (hs : swapsWithSole [tg] e pos.line X.env = pure false) (hw : swappedStores [tg] e X.env = pure none) (h1 : (assignEach [tg] X.env).map (·.2) = [assign tg X.env]) :
    SS X W (.Assign [tg] e pos) (bindM m b) := weakS (ps_asg h hg hs hw h1) fun D σ H ⟨en, G, F, B, s, k⟩ => by
  refine ⟨en, G, F, B, s, (ok_bind.mp k).imp (fun r e1 k1 v H1 G1 s1 m1 rr => ?_) fun _ _ w => w⟩
  obtain ⟨G2, s2, m2, r2⟩ := rr.freeze s1
  have m12 := m1.trans m2
  exact ⟨r.d, e1, G2, F, B, s2, r2, (ok_bind.mp k1).imp (fun _ e2 k2 σ3 H3 G3 s3 m3 _ => k2 σ3 H3 G3 s3 (m12.trans m3)) fun _ _ w => w.up m12⟩
/-- a, b = x, y -/
@[simp] def parM (i j : Nat) (m n : M RV) : M Fl := do
  let r ← m
  let t ← n
  store i r
  store j t
  pure .nx
theorem unfr {K : PySem.W.Frag} {F : Hp} {B : List (Nat × Addr)} {σ : St} {H : Hp} {en : En} {G : Hp} {p : Addr} {o : HO} (s : SR K (upd F p o) B σ H en G) (h : F p = none) : SR K F B σ H en G := by
  have k : ∀ a u, F a = some u → upd F p o a = some u := fun a u q => by rw [upd_ne (ne_of_none q h)]; exact q
  refine ⟨s.len, s.sub, fun a u q => s.frm a u (k a u q), fun a u q => s.dsj a u (k a u q), s.vls, fun i b ds q => ?_, s.dis⟩
  obtain ⟨p', ws, h1, h2, h3, r⟩ := s.ows i b ds q
  refine ⟨p', ws, h1, h2, ?_, r⟩
  cases w : F p' with
  | none => rfl
  | some u => rw [k p' u w] at h3; cases h3
theorem infr {K : PySem.W.Frag} {F : Hp} {B : List (Nat × Addr)} {σ : St} {H : Hp} {en : En} {G : Hp} {p : Addr} {o : HO} (s : SR K F B σ H en G) (hp : H p = some o) (hg : G p = none) (no : ∀ (i : Nat) (b : Bool) (es : List PyData), en[i]? = some (.ow b es) → σ[i]? ≠ some (some (.ref p))) : SR K (upd F p o) B σ H en G := by
  refine ⟨s.len, s.sub, fun a u q => ?_, fun a u q => ?_, s.vls, fun i b ds q => ?_, s.dis⟩
  · by_cases e : a = p
    · subst e; rw [upd_same] at q; rw [← q]; exact hp
    · rw [upd_ne e] at q; exact s.frm a u q
  · by_cases e : a = p
    · subst e; exact hg
    · rw [upd_ne e] at q; exact s.dsj a u q
  · obtain ⟨p', ws, h1, h2, h3, r⟩ := s.ows i b ds q
    refine ⟨p', ws, h1, h2, ?_, r⟩
    rw [upd_ne fun z => no i b ds q (by rw [h1, z])]
    exact h3
theorem ss_par {i j : Nat} {x y : Str} {e1 e2 : Expr} {m n : M RV} {px py pt : Pos} {kt k2 pt2} (hc : X.calm = true) (hN : X.N.Nodup) (hi : X.N[i]? = some x) (hj : X.N[j]? = some y) (hij : i ≠ j)
    (hx : X.env.scope.names.lookup x = some .local) (hy : X.env.scope.names.lookup y = some .local) (h1 : SV X W e1 m) (h2 : SV X W e2 n) (s1 : starEach [e1, e2] X.env = (false, eval e1 X.env) :: starEach [e2] X.env) (s2 : starEach [e2] X.env = (false, eval e2 X.env) :: starEach [] X.env)
    (hw : swappedStores [.Tuple [.Name x px, .Name y py] kt pt] (.Tuple [e1, e2] k2 pt2) X.env = pure (some [x, y])) (hs : swapsWithSole [.Tuple [.Name x px, .Name y py] kt pt] (.Tuple [e1, e2] k2 pt2) pos.line X.env = pure false) :
    SS X W (.Assign [.Tuple [.Name x px, .Name y py] kt pt] (.Tuple [e1, e2] k2 pt2) pos) (parM i j m n) :=
  weakS (ps_par hc hN hi hj hij hx hy (pa_cons h1 (pa_cons h2 pa_nil s2) s1) hw hs) fun D σ H ⟨en, G, F, B, s, k⟩ => by
    refine ⟨en, G, F, B, s, (ok_bind.mp k).imp (fun r e1 k1 v H1 G1 s1 m1 rr => ?_) fun _ _ w => w⟩
    have fin : ∀ {t : RV} {e2 : En} {H2 : Hp} {G2 : Hp} {w : V}, SR X.K F B σ H2 e2 G2 → Same G G2 → RR X.K F σ H2 e2 G2 v r → RR X.K F σ H2 e2 G2 w t → (∀ p p' : Addr, r.fr = true → t.fr = true → v = .ref p → w = .ref p' → p ≠ p') →
        Ok (do store i r; store j t; pure Fl.nx) e2 (FlP X.K F B G D) (WE X.K X.mg W F B G) → D.nx ((σ.set i (some v)).set j (some w)) H2 := fun {t e2 H2 G2 w} s2 m2 rv rw_ apart k3 => by
      obtain ⟨li, k4⟩ := ok_store (ok_bind.mp k3)
      obtain ⟨lj, k5⟩ := ok_store (ok_bind.mp k4)
      have sa := s2.store (i := i) rv
      refine k5 _ H2 G2 (sa.store ?_) m2
      unfold RR at rw_ ⊢
      cases hf : t.fr with
      | false => rw [hf] at rw_; exact rw_
      | true =>
        rw [hf] at rw_
        obtain ⟨p, vs, ds, rfl, z1, z2, z3, z4, z5, z6⟩ := rw_
        refine ⟨p, vs, ds, rfl, z1, z2, z3, z4, z5, fun l b es q z => ?_⟩
        rcases set_get q with ⟨rfl, w1⟩ | ⟨ne, w1⟩
        · rw [List.getElem?_set_self (by rw [← s2.len]; exact li)] at z
          cases z
          obtain ⟨d, fr⟩ := r
          cases fr with
          | false => cases d <;> cases w1
          | true =>
            exact apart p p rfl hf rfl rfl rfl
        · rw [List.getElem?_set_ne (Ne.symm ne)] at z
          exact z6 l b es w1 z
    cases hf : r.fr with
    | false =>
      refine ⟨e1, G1, F, B, s1, (ok_bind.mp k1).imp (fun t e2 k2 w H2 G2 s2 m2 rw_ => ?_) fun _ _ w => w.up m1⟩
      refine ⟨v, w, rfl, fin s2 (m1.trans m2) ?_ rw_ (fun _ _ z => by rw [hf] at z; cases z) k2⟩
      unfold RR at rr ⊢
      rw [hf] at rr ⊢
      exact Rp.up rr m2
    | true =>
      have rr' := rr
      unfold RR at rr
      rw [hf] at rr
      obtain ⟨p, vs, ds, rfl, z1, z2, z3, z4, z5, z6⟩ := rr
      refine ⟨e1, G1, upd F p (.lst vs), B, infr s1 z4 z2 z6, (ok_bind.mp k1).imp (fun t e2 k2 w H2 G2 s2 m2 rw_ => ?_) fun x e' wx => ?_⟩
      · have s2' := unfr s2 z3
        have gp : G2 p = none := s2.dsj p _ upd_same
        have rv : RR X.K F σ H2 e2 G2 (.ref p) r := by
          unfold RR
          rw [hf]
          refine ⟨p, vs, ds, rfl, z1, gp, z3, s2.frm p _ upd_same, z5.up m2, fun l b es q z => ?_⟩
          obtain ⟨p', ws, y1, _, y3, _⟩ := s2.ows l b es q
          rw [z] at y1
          cases y1
          rw [upd_same] at y3
          cases y3
        have rw2 : RR X.K F σ H2 e2 G2 w t := by
          unfold RR at rw_ ⊢
          cases ht : t.fr with
          | false => rw [ht] at rw_; exact rw_
          | true =>
            rw [ht] at rw_
            obtain ⟨p2, vs2, ds2, rfl, y1, y2, y3, y4⟩ := rw_
            refine ⟨p2, vs2, ds2, rfl, y1, y2, ?_, y4⟩
            cases q : F p2 with
            | none => rfl
            | some u => rw [upd_ne (ne_of_none q z3)] at y3; rw [q] at y3; cases y3
        refine ⟨.ref p, w, rfl, fin s2' (m1.trans m2) rv rw2 (fun a b _ ht ea eb => ?_) k2⟩
        cases ea
        unfold RR at rw_
        rw [ht] at rw_
        obtain ⟨p2, vs2, ds2, e2', y1, y2, y3, y4⟩ := rw_
        rw [eb] at e2'
        cases e2'
        intro z
        rw [← z, upd_same] at y3
        cases y3
      · exact fun C v dx σ' H' G' a b c d f => wx.up m1 C v dx σ' H' G' a (unfr b z3) c d f
end
end Ev

set_option Elab.async false
set_option linter.all false
set_option maxRecDepth 100000
set_option maxHeartbeats 4000000
/-! EvM: comprehensions as values, lists of one's own written, loops. -/
namespace Ev
open PySem PySem.Spec L2

section
variable {X : Cx} {W : WX} {elt tg iter c e : Expr} {scope : Scope} {own : List (Str × Nat)} {pos spos : Pos} {pr : Bool} {sl : List Nat} {mi : M (List PyData)} {bt : PyData → M Unit} {mc : M Bool} {me : M RV} {ifs : List Expr}
abbrev SPs (X : Cx) (W : WX) (ifs : List Expr) (m : M Bool) : Prop := PTs X ifs (tBo X.K X.mg W m)
theorem weakPs {t t' : TT} (h : PTs X ifs t) (k : ∀ σ H Q, t' σ H Q → t σ H Q) : PTs X ifs t' := ⟨fun p s σ H Q I q => h.run p s σ H Q I (k σ H Q q)⟩
theorem sps_nil : SPs X W [] (pure true) := weakPs pts_nil fun σ H Q ⟨en, G, F, B, s, k⟩ => k H G s (.refl _)
theorem sps_one (h : SB X W c mc) : SPs X W [c] mc := pts_one h
theorem sv_lc (hsl : ∀ i ∈ sl, i ∈ own.map (·.2)) (hc : X.calm = true) (hN : X.N.Nodup) (hi : SI X W pr tg iter mi) (ok : BlkOk X.N X.env.scope scope own)
    (hg : ∀ (s : Shared) (H : Hp) (C : Addr) (cl : List (Str × Addr)) (fp : List Addr), SG (X.blk s H scope (compEnvC scope cl C X.env) fp) W0 pr tg sl bt)
    (ht : ∀ (s : Shared) (H : Hp) (C : Addr) (cl : List (Str × Addr)) (fp : List Addr), SPs (X.blk s H scope (compEnvC scope cl C X.env) fp) W0 ifs mc)
    (he : ∀ (s : Shared) (H : Hp) (C : Addr) (cl : List (Str × Addr)) (fp : List Addr), SV (X.blk s H scope (compEnvC scope cl C X.env) fp) W0 elt me) (hs : ∀ x, foldedSetIterable iter X.env x = pure x) :
    SV X W (.ListComp elt [⟨tg, iter, ifs, 0⟩] scope pos) (lcM (own.map (·.2)) mi (turnM bt mc me)) :=
  weakE (pe_lc hc hN hi ok hg ht he hs) fun _ _ _ q => t_lc hsl q
/-- name = [..] on one line -/
theorem ss_setLc {i : Nat} {y : Str} {py : Pos} (hsl : ∀ i ∈ sl, i ∈ own.map (·.2)) (hc : X.calm = true) (hN : X.N.Nodup) (hy : X.N[i]? = some y) (hyl : X.env.scope.names.lookup y = some .local)
    (hsw : swapsWith (.ListComp elt [⟨tg, iter, ifs, 0⟩] scope pos) (some (.Name y py)) spos.line X.env = pure true) (hi : SI X W pr tg iter mi) (ok : BlkOk X.N X.env.scope scope own)
    (hg : ∀ (s : Shared) (H : Hp) (C : Addr) (cl : List (Str × Addr)) (fp : List Addr), SG (X.blk s H scope (compEnvC scope cl C X.env) fp) W0 pr tg sl bt)
    (ht : ∀ (s : Shared) (H : Hp) (C : Addr) (cl : List (Str × Addr)) (fp : List Addr), SPs (X.blk s H scope (compEnvC scope cl C X.env) fp) W0 ifs mc)
    (he : ∀ (s : Shared) (H : Hp) (C : Addr) (cl : List (Str × Addr)) (fp : List Addr), SV (X.blk s H scope (compEnvC scope cl C X.env) fp) W0 elt me) (hs : ∀ x, foldedSetIterable iter X.env x = pure x) :
    SS X W (.Assign [.Name y py] (.ListComp elt [⟨tg, iter, ifs, 0⟩] scope pos) spos) (setM i (lcM (own.map (·.2)) mi (turnM bt mc me))) :=
  weakS (ps_setLc hc hN hy hyl hsw hi ok hg ht he hs) fun _ _ _ q => t_set (fun _ _ _ q => t_lc hsl q) q
end

/-! ### a list of one's own is written -/
section
variable {K : PySem.W.Frag} {F : Hp} {B : List (Nat × Addr)} {σ : St} {H : Hp} {e : En} {G : Hp}
theorem SR.write (s : SR K F B σ H e G) {i : Nat} {b : Bool} {ds ds' : List PyData} {p : Addr} {vs' : List V} (q : e[i]? = some (.ow b ds)) (hp : σ[i]? = some (some (.ref p))) (r : RpAll K G vs' ds') :
    SR K F B σ (upd H p (.lst vs')) (e.set i (.ow b ds')) G := by
  obtain ⟨p', vs, h1, h2, h3, h4, h5, h6⟩ := s.ows i b ds q
  rw [hp] at h1
  cases h1
  have hi : i < e.length := by
    rcases Nat.lt_or_ge i e.length with z | z
    · exact z
    · rw [List.getElem?_eq_none z] at q; cases q
  have old : ∀ {j : Nat} {c : Bool} {es : List PyData}, (e.set i (.ow b ds'))[j]? = some (.ow c es) → ∃ es', e[j]? = some (.ow c es') := fun {j c es} z => by
    rcases set_get z with ⟨rfl, w⟩ | ⟨_, w⟩
    · cases w; exact ⟨_, q⟩
    · exact ⟨_, w⟩
  refine ⟨by simp [s.len], fun a u z => ?_, fun a u z => ?_, s.dsj, fun j d z => ?_, fun j c es z => ?_, fun j l c c' es fs p2 z1 z2 z3 z4 => ?_⟩
  · rw [upd_ne (ne_of_none z h2)]; exact s.sub a u z
  · rw [upd_ne (ne_of_none z h3)]; exact s.frm a u z
  · rcases set_get z with ⟨rfl, w⟩ | ⟨_, w⟩
    · cases w
    · exact s.vls j d w
  · rcases set_get z with ⟨rfl, w⟩ | ⟨ne, w⟩
    · cases w
      exact ⟨p, vs', hp, h2, h3, upd_same, r, h6⟩
    · obtain ⟨p2, ws, k1, k2, k3, k4, k5, k6⟩ := s.ows j c es w
      have np : p2 ≠ p := fun w' => ne (s.dis j i c b es ds p w q (by rw [k1, w']) hp)
      exact ⟨p2, ws, k1, k2, k3, by rw [upd_ne np]; exact k4, k5, k6⟩
  · obtain ⟨es', w1⟩ := old z1
    obtain ⟨fs', w2⟩ := old z2
    exact s.dis j l c c' es' fs' p2 w1 w2 z3 z4
end
/-- slot i, a list of one's own, becomes what f makes of it -/
def writeM (i : Nat) (f : List PyData → Option (List PyData)) : M Unit := fun e => match e[i]? with
  | some (.ow b ds) => (f ds).map fun ds' => .ok () (e.set i (.ow b ds'))
  | _ => none
theorem ok_write {i : Nat} {f : List PyData → Option (List PyData)} {e : En} {P : Unit → En → Prop} {W : Exn → En → Prop} (h : Ok (writeM i f) e P W) : ∃ b ds ds', e[i]? = some (.ow b ds) ∧ f ds = some ds' ∧ P () (e.set i (.ow b ds')) := by
  unfold Ok writeM at h
  split at h
  · exact h.elim
  · rename_i a e' q
    split at q
    · rename_i b ds w
      cases z : f ds with
      | none => rw [z] at q; cases q
      | some ds' =>
        rw [z] at q
        cases q
        exact ⟨b, ds, ds', w, z, h⟩
    · cases q
  · rename_i x e' q
    split at q
    · rename_i b ds w
      cases z : f ds with
      | none => rw [z] at q; cases q
      | some ds' => rw [z] at q; cases q
    · cases q
/-- slot i is a list of one's own now -/
def ownM (i : Nat) : M Unit := fun e => match e[i]? with
  | some (.ow _ _) => some (.ok () e)
  | _ => none
theorem ok_own {i : Nat} {e : En} {P : Unit → En → Prop} {W : Exn → En → Prop} (h : Ok (ownM i) e P W) : (∃ b ds, e[i]? = some (.ow b ds)) ∧ P () e := by
  unfold Ok ownM at h
  split at h
  · exact h.elim
  · rename_i a e' q
    split at q
    · rename_i b ds w
      cases q
      exact ⟨⟨b, ds, w⟩, h⟩
    · cases q
  · rename_i x e' q
    split at q <;> cases q
def appM (i : Nat) (m : M RV) : M Fl := do
  ownM i
  let d ← valM m
  writeM i fun ds => if ds.length < most then some (ds ++ [d]) else none
  pure .nx
def itL : PyData → Option (List PyData)
  | .list ds => some ds
  | _ => none
def extM (i : Nat) (m : M RV) : M Fl := do
  ownM i
  let d ← valM m
  let es ← liftO (itL d)
  writeM i fun ds => if ds.length + es.length ≤ most then some (ds ++ es) else none
  pure .nx
section
variable {X : Cx} {W : WX} {o e : Expr} {apos cpos pos : Pos} {i : Nat} {m : M RV}
/-- the list at a known place -/
theorem SR.at {K : PySem.W.Frag} {F : Hp} {B : List (Nat × Addr)} {σ : St} {H : Hp} {e : En} {G : Hp} (s : SR K F B σ H e G) {i : Nat} {b : Bool} {ds : List PyData} {p : Addr} (q : e[i]? = some (.ow b ds)) (hp : σ[i]? = some (some (.ref p))) : ∃ vs, H p = some (.lst vs) ∧ RpAll K G vs ds ∧ G p = none := by
  obtain ⟨p', vs, h1, h2, h3, h4, h5, h6⟩ := s.ows i b ds q
  rw [hp] at h1
  cases h1
  exact ⟨vs, h4, h5, h2⟩
theorem mt_extendR : MtR X "list.extend" (fun x vs H Q => ∃ l b xs zs, x = .ref l ∧ vs = [.ref b] ∧ H l = some (.lst xs) ∧ LsR X.K H b zs ∧ xs.length + zs.length ≤ sizeLine ∧ Q .non (upd H l (.lst (xs ++ zs)))) := by
  rintro pins s σ H x vs v us Q I rx rv ⟨l, b, xs, zs, ex, ev, hH, hB, hz, q⟩
  subst ex ev
  cases rx
  obtain ⟨u, rfl, ru⟩ := rv.one
  cases ru
  obtain ⟨z, a1, n, r, hl, k1⟩ := I.lstM hH
  obtain ⟨z2, a2, n2, r2, k2⟩ := lstR I hB
  have len2 := r2.length
  have room : a1.toArray.size + a2.toArray.size ≤ sizeLine := by rw [List.size_toArray, List.size_toArray]; omega
  have fits : ¬ (!a1.toArray.isEmpty && Builtin.List.listTooLong (a1.toArray.size + a2.toArray.size)) = true := by
    rw [notLongL room, Bool.and_false]
    simp
  refine call_meets F.slot_list_extend ⟨_, k1, rfl⟩ F.entry_list_extend (F.args_list_extend_2 _ _) (AutoSeq1.list_extend_list_list_0 l a1.toArray n b a2.toArray n2 fits (by rw [List.size_toArray]; omega) (by omega)) ⟨k1, k2, ?_⟩
  exact ⟨.non, _, I.lset (its' := a1 ++ a2) hH k1 (by simp) (r.append r2) (by rw [List.length_append]; omega), rfl, q⟩
theorem ss_app (pa : PlainAttrs "list") (slot : Slot "list" "append" "list.append") (hty : typeOf (.builtin "list.append") = pure (.type "method_descriptor")) (ho : PE X o (tVar i)) (h : SV X W e m) (k : MOk X o "append" e [] apos cpos)
    (hs : swapsWith (.Call (.Attribute o "append" apos) [e] [] cpos) none pos.line X.env = pure false) : SS X W (.Expr (.Call (.Attribute o "append" apos) [e] [] cpos) pos) (appM i m) :=
  weakS (ps_expr (pe_bm pa slot hty mt_append ho (pa_cons h pa_nil k.star) k.base k.few k.line k.star k.plain) hs) fun D σ H ⟨en, G, F, B, s, k⟩ => by
    obtain ⟨⟨b, ds, q⟩, k1⟩ := ok_own (ok_bind.mp k)
    obtain ⟨p, vs, h1, h2, h3, h4, h5, h6⟩ := s.ows i b ds q
    refine ⟨_, h1, .inl ⟨rfl, vs, .inl (.of h4)⟩, en, G, F, B, s, (ok_bind.mp (ok_bind.mp k1)).imp (fun r e1 k2 y H1 G1 s1 m1 rr => ?_) fun _ _ w => w⟩
    obtain ⟨G2, s2, m2, r2⟩ := rr.freeze s1
    obtain ⟨b', ds', es', q', hf, k3⟩ := ok_write (ok_bind.mp k2)
    split at hf
    · rename_i z
      cases hf
      obtain ⟨ws, w1, w2, w3⟩ := s2.at q' h1
      refine ⟨p, ws, y, rfl, rfl, w1, by rw [w2.len]; exact Nat.lt_of_lt_of_le z (by decide), ?_⟩
      exact k3 σ _ G2 (s2.write q' h1 (w2.app (.cons r2 .nil))) (m1.trans m2)
    · cases hf
theorem ss_ext (pa : PlainAttrs "list") (slot : Slot "list" "extend" "list.extend") (hty : typeOf (.builtin "list.extend") = pure (.type "method_descriptor")) (ho : PE X o (tVar i)) (h : SV X W e m) (k : MOk X o "extend" e [] apos cpos)
    (hs : swapsWith (.Call (.Attribute o "extend" apos) [e] [] cpos) none pos.line X.env = pure false) : SS X W (.Expr (.Call (.Attribute o "extend" apos) [e] [] cpos) pos) (extM i m) :=
  weakS (ps_expr (pe_bm pa slot hty mt_extendR ho (pa_cons h pa_nil k.star) k.base k.few k.line k.star k.plain) hs) fun D σ H ⟨en, G, F, B, s, k⟩ => by
    obtain ⟨⟨b, ds, q⟩, k1⟩ := ok_own (ok_bind.mp k)
    obtain ⟨p, vs, h1, h2, h3, h4, h5, h6⟩ := s.ows i b ds q
    refine ⟨_, h1, .inl ⟨rfl, vs, .inl (.of h4)⟩, en, G, F, B, s, (ok_bind.mp (ok_bind.mp k1)).imp (fun r e1 k2 y H1 G1 s1 m1 rr => ?_) fun _ _ w => w⟩
    obtain ⟨G2, s2, m2, r2⟩ := rr.freeze s1
    have k2 : Ok (do let es ← liftO (itL r.d); writeM i (fun ds => if ds.length + es.length ≤ most then some (ds ++ es) else none); pure Fl.nx) e1 (FlP X.K F B G D) (WE X.K X.mg W F B G) := k2
    obtain ⟨es, hes, k2⟩ := ok_liftO.mp (ok_bind.mp k2)
    have hd : r.d = .list es := by
      obtain ⟨d, fr⟩ := r
      cases d <;> try cases hes
      rfl
    rw [hd] at r2
    obtain ⟨b', ds', es', q', hf, k3⟩ := ok_write (ok_bind.mp k2)
    split at hf
    · rename_i z
      cases hf
      obtain ⟨ws, w1, w2, w3⟩ := s2.at q' h1
      cases r2 with
      | lst l1 l2 =>
        rename_i a zs
        refine ⟨p, a, ws, zs, rfl, rfl, w1, l1.same s2.sub, by rw [w2.len, l2.len]; exact most_line z, ?_⟩
        exact k3 σ _ G2 (s2.write q' h1 (w2.app l2)) (m1.trans m2)
    · cases hf
def intO : PyData → Option Int
  | .int k => some k
  | _ => none
/-- x[j] = .., x a list of one's own -/
def subT (i : Nat) (mj : M OV) (d : PyData) : M Unit := do
  ownM i
  let o ← mj
  let j ← der o
  let k ← liftO (intO j)
  writeM i fun ds => (ixN ds.length k).map fun n => ds.set n d
theorem intO_some {d : PyData} {k : Int} (h : intO d = some k) : d = .int k := by
  cases d <;> try cases h
  rfl
theorem sg_sub {mj : M OV} (ho : PE X o (tVar i)) (hj : SO X W e mj)
    (ha : ∀ v, assign (.Subscript o e pos) X.env v = (do
      let ov ← holding [v] (eval o X.env)
      let iv ← holding [v, ov] (eval e X.env)
      standAt pos
      holding [v, ov, iv] (setItem ov iv v)
      release [v, ov, iv] [])) : SG X W false (.Subscript o e pos) [] (subT i mj) :=
  weakG (pg_sub ho hj set_list ha) fun v σ H Q ⟨d, en, G, F, B, s, r, k⟩ => by
    obtain ⟨⟨b, ds, q⟩, k1⟩ := ok_own (ok_bind.mp k)
    obtain ⟨p, vs, h1, _⟩ := s.ows i b ds q
    refine ⟨_, h1, en, G, F, B, s, (ok_bind.mp k1).imp (fun oj e1 k2 y H1 G1 s1 m1 r1 => ?_) fun _ _ w => w⟩
    obtain ⟨dj, hj, k3⟩ := s1.der r1 (ok_bind.mp k2)
    obtain ⟨kk, hk, k4⟩ := ok_liftO.mp (ok_bind.mp k3)
    obtain rfl := intO_some hk
    cases hj.int
    obtain ⟨b', ds', es', q', hf, k5⟩ := ok_write k4
    obtain ⟨ws, w1, w2, w3⟩ := s1.at q' h1
    cases hn : ixN ds'.length kk with
    | none => rw [hn] at hf; cases hf
    | some n =>
      rw [hn] at hf
      cases hf
      refine ⟨p, ws, kk, n, rfl, rfl, w1, by rw [w2.len]; exact hn, ?_⟩
      exact k5 σ _ G1 (s1.write q' h1 (w2.set (r.up m1) n)) m1 ⟨rfl, fun _ _ => rfl⟩
end

/-! ### for -/
def forGo (step : PyData → M Fl) : List PyData → M Fl
  | [] => pure .nx
  | d :: ds => do
    let f ← step d
    match f with
    | .nx => forGo step ds
    | .ct => forGo step ds
    | .bk => pure .nx
    | .rt r => pure (.rt r)
def bodyM (bt : PyData → M Unit) (mb : M Fl) (d : PyData) : M Fl := do
  bt d
  mb
def forM (mi : M (List PyData)) (step : PyData → M Fl) : M Fl := do
  let items ← mi
  forGo step items
section
variable {X : Cx} {W : WX} {tg iter : Expr} {body : List Stmt} {pos : Pos} {pr : Bool} {sl : List Nat} {mi : M (List PyData)} {bt : PyData → M Unit} {mb : M Fl}
theorem ss_for (hp : PassesOwn (model X.prog X.w) X.A X.env X.xe) (hc : X.calm = true) (hi : SI X W pr tg iter mi) (hg : SG X W pr tg sl bt) (hb : SSs X W body mb) (hs : ∀ x, foldedSetIterable iter X.env x = pure x) :
    SS X W (.For tg iter body [] pos) (forM mi (bodyM bt mb)) := weakS (ps_for hp hc hi hg hb hs) fun D σ H ⟨e0, G0, F, B, s0, k⟩ => by
  refine ⟨e0, G0, F, B, s0, (ok_bind.mp k).imp (fun items e1 k1 J H1 G1 s1 m1 it => ?_) fun _ _ w => w⟩
  refine ⟨fun i m σ H => m = items.length - i ∧ i ≤ items.length ∧ ∃ e G, SR X.K F B σ H e G ∧ Same G1 G ∧ Ok (forGo (bodyM bt mb) (items.drop i)) e (FlP X.K F B G D) (WE X.K X.mg W F B G), ⟨_, rfl, Nat.zero_le _, e1, G1, s1, .refl _, k1.imp (fun _ _ z => z.up m1) fun _ _ z => z.up m1⟩, ?_⟩
  rintro i m σ H ⟨rfl, hi, e, G, s, sm, go⟩
  by_cases hlt : i < items.length
  · refine .inr ⟨it.go i H hlt (sm.trans s.sub), fun σ' H' => items.length - (i + 1) = items.length - (i + 1) ∧ i + 1 ≤ items.length ∧ ∃ e G, SR X.K F B σ' H' e G ∧ Same G1 G ∧ Ok (forGo (bodyM bt mb) (items.drop (i + 1))) e (FlP X.K F B G D) (WE X.K X.mg W F B G), fun σ' H' p => ⟨_, by omega, p⟩, fun x H' y => ?_⟩
    obtain ⟨d, hd, hy⟩ := it.yld i H x H' hlt (sm.trans s.sub) y
    have hx : ∃ G', SR X.K F B σ H' e G' ∧ Same G G' ∧ RpP X.K pr G' x d := by
      rcases hy with ⟨rfl, rfl, r⟩ | ⟨p, vs, es, rfl, hp, rfl, rfl, rfl, r⟩
      · exact ⟨G, s, .refl _, r.up sm⟩
      · obtain ⟨s', m', r'⟩ := s.pair (r.up sm) hp
        exact ⟨_, s', m', r'⟩
    obtain ⟨G', s', m', r'⟩ := hx
    have dr : items.drop i = d :: items.drop (i + 1) := by
      rw [List.drop_eq_getElem_cons hlt]
      congr 1
      rw [List.getElem?_eq_getElem hlt] at hd
      exact Option.some.inj hd
    rw [dr] at go
    have go : Ok (do let f ← (do bt d; mb); match f with | .nx => forGo (bodyM bt mb) (items.drop (i + 1)) | .ct => forGo (bodyM bt mb) (items.drop (i + 1)) | .bk => pure .nx | .rt r => pure (.rt r)) e (FlP X.K F B G D) (WE X.K X.mg W F B G) := go
    refine ⟨d, e, G', F, B, s', r', (ok_bind.mp (ok_bind.mp go)).imp (fun _ e2 k2 σ2 H2 G2 s2 m2 _ => ?_) fun _ _ z => z.up m'⟩
    have m02 := m'.trans m2
    refine ⟨e2, G2, F, B, s2, k2.imp (fun f e3 k3 => ?_) fun _ _ z => z.up m02⟩
    cases f with
    | nx => exact fun σ3 H3 G3 s3 m3 => ⟨rfl, hlt, e3, G3, s3, sm.trans (m02.trans m3), Ok.imp (show Ok (forGo (bodyM bt mb) (items.drop (i + 1))) e3 _ _ from k3) (fun _ _ z => z.up (m02.trans m3)) fun _ _ z => z.up (m02.trans m3)⟩
    | ct => exact fun σ3 H3 G3 s3 m3 => ⟨rfl, hlt, e3, G3, s3, sm.trans (m02.trans m3), Ok.imp (show Ok (forGo (bodyM bt mb) (items.drop (i + 1))) e3 _ _ from k3) (fun _ _ z => z.up (m02.trans m3)) fun _ _ z => z.up (m02.trans m3)⟩
    | bk =>
      have k3 : FlP X.K F B G D .nx e3 := k3
      exact fun σ3 H3 G3 s3 m3 => k3 σ3 H3 G3 s3 (m02.trans m3)
    | rt r =>
      have k3 : FlP X.K F B G D (.rt r) e3 := k3
      exact fun v σ3 H3 G3 s3 m3 rr => k3 v σ3 H3 G3 s3 (m02.trans m3) rr
  · obtain rfl : i = items.length := by omega
    rw [List.drop_length] at go
    have go : FlP X.K F B G D .nx e := go
    exact .inl ⟨it.stop H (sm.trans s.sub), go σ H G s (.refl _)⟩
/-- code that is never reached -/
theorem ss_never {st : Stmt} : SS X W st (liftO none) := weakS ps_never fun D σ H ⟨e0, G0, F, B, s0, k⟩ => not_none k
theorem sss_never {st : List Stmt} : SSs X W st (liftO none) := weakSs pss_never fun D σ H ⟨e0, G0, F, B, s0, k⟩ => not_none k
end
end Ev

set_option Elab.async false
set_option linter.all false
set_option maxRecDepth 100000
set_option maxHeartbeats 4000000
/-! EvN: defs that call one another, no exception leaving, no guard about. -/
namespace Ev
open PySem PySem.Spec L2
abbrev SpG := List V → Hp → VK → Prop
def cx0 : CXT := fun _ _ _ _ _ _ => False
def e0 : XK := fun _ _ _ => False
/-- what a def promises where no guard is about -/
structure FnG (P : Program) (w : World) (K : PySem.W.Frag) (mg : Str → Option Value) (base : Heap) (k : Nat) (f : Addr) (fd : FuncData) (ps : List Str) (sp : SpG) : Prop where
  cnt : ∀ {vs : List V} {H : Hp} {Q : VK}, sp vs H Q → vs.length = ps.length
  go : ∀ {A : Around} {out : List Env} {s : Shared} {H : Hp} {args : Args} {us : List Value} {vs : List V} {Q : VK}, Room k A → A.guards = some [] → Env0 P w K mg base A out s H → BindsTo s fd args (ps.zip us) → Vals vs us → sp vs H Q →
    codeAny (model P w) A (.call (.ref f) args) (CR cx0 out P w H s Q e0) s
theorem FnG.more {P : Program} {w : World} {K : PySem.W.Frag} {mg : Str → Option Value} {base : Heap} {j k : Nat} {f : Addr} {fd : FuncData} {ps : List Str} {sp : SpG} (F : FnG P w K mg base j f fd ps sp) (h : j ≤ k) : FnG P w K mg base k f fd ps sp :=
  ⟨F.cnt, fun r => F.go (r.mono h)⟩
theorem FnG.less {P : Program} {w : World} {K : PySem.W.Frag} {mg : Str → Option Value} {base : Heap} {k : Nat} {f : Addr} {fd : FuncData} {ps : List Str} {sp sp' : SpG} (F : FnG P w K mg base k f fd ps sp) (h : ∀ vs H Q, sp' vs H Q → sp vs H Q) : FnG P w K mg base k f fd ps sp' :=
  ⟨fun q => F.cnt (h _ _ _ q), fun r g e b v q => F.go r g e b v (h _ _ _ q)⟩
section
variable {P : Program} {w : World} {K : PySem.W.Frag} {mg : Str → Option Value} {base : Heap} {x qual : Str} {params : Arguments} {body : List Stmt} {sc : Scope} {f : Addr} {fd : FuncData}
/-- a def by its body -/
theorem FnG.of {dvs : List V} {kws : List (Str × V)} {N ps : List Str} {k : Nat} {sp : SpG} (D : FunD K x qual params body sc dvs kws f fd) (S : FnScope N ps sc) (cnt : ∀ {vs : List V} {H : Hp} {Q : VK}, sp vs H Q → vs.length = ps.length)
    (hb : ∀ (cdv : Value) (A : Around) (out : List Env) (s : Shared) (H : Hp), Room k (A.deeper (PyProof.Rows.envOfC qual sc s.heap.objs.size f cdv)) → A.guards = some [] →
      ∃ t, PSs (cxOf cx0 P w K mg base N qual sc f cdv A out s H e0).nox body t ∧ ∀ vs Q, sp vs H Q → t { nx := fun _ H' => Q .non H', rt := Q } (start N vs) H) : FnG P w K mg base (k + 1) f fd ps sp := by
  obtain ⟨oc, od, dV, kV, doc, pm, an, cdv, ct, osl, efd, look, code, _, _⟩ := D.ex
  subst efd
  refine ⟨cnt, fun {A out s H args us vs Q} room gd en bi rv q => ?_⟩
  have cn := cnt q
  have inK : K.In s.heap := en.mod.kin.keeps fun a o z => (en.bs a o z).1
  have nolim : s.heap.NoLimit := en.mod.nolimit.keeps fun a o z => (en.bs a o z).1
  have bound : ∀ y ∈ ps.zip us, sc.names.lookup y.1 = some .local ∨ (sc.names.lookup y.1 = some .cell ∧ ((cellsFrom (s.heap.objs.size + 1) sc.names []).lookup y.1).isSome = true) := fun y my => by
    obtain ⟨n, u⟩ := y
    exact (S.par n (List.of_mem_zip my).1).elim .inl fun z => .inr ⟨z, PySem.W.cellsFrom_some _ _ _ (.inl z)⟩
  refine codeAny_call_function room.depth (inK _ _ look) rfl S.co S.gen rfl (PySem.W.codeRec_of inK code) (bi _ _ _ _ ?_)
  refine wpAny_newFunctionEnv_cells S.kind bound fun env ee s1 inc => ?_
  subst ee
  obtain ⟨t, ht, hq⟩ := hb cdv A out s H (room.deeper _) gd
  have I := inv_start (CX := cx0) (E := e0) (mg := mg) (base := base) (cd := cdv) S room.hd en cn rv inc
  refine ⟨nolim.keeps inc.toInCall.keep, codeAny_func ?_⟩
  refine wpAny_mono (ht.nox.run [] s1 _ H _ I (hq vs Q q)) (fun fl s2 out => ?_) fun _ _ z => z
  cases fl with
  | next => exact out.elim fun σ' o => o.elim fun H' o => ⟨.non, H', o.1.os, o.1.bare, o.1.base, o.1.hok, rfl, o.2⟩
  | ret u => exact out.elim fun v o => o.elim fun σ' o => o.elim fun H' o => ⟨v, H', o.1.os, o.1.bare, o.1.base, o.1.hok, o.2.1, o.2.2⟩
  | brk => exact out.elim fun σ' o => o.elim fun H' o => (show False from o.2).elim
  | cont => exact out.elim fun σ' o => o.elim fun H' o => (show False from o.2).elim
end
section
variable {X : Cx} {k : Nat} {f : Addr} {fd : FuncData} {ps ks : List Str} {sp : SpG} {x : Str} {p pos : Pos} {e : Expr} {es : List Expr} {kws : List Keyword} {t tk : TA}
theorem FnG.calls {pins : List (Addr × Obj)} {σ : St} {H : Hp} {s : Shared} {Q : VK} {args : Args} {us : List Value} {vs : List V} (F : FnG X.prog X.w X.K X.mg X.base k f fd ps sp) (room : Room k X.A) (gd : X.A.guards = some []) (bi : BindsTo s fd args (ps.zip us))
    (I : Inv X pins σ H s) (r : Vals vs us) (h : sp vs H Q) : wpAny (model X.prog X.w) X.A (call (.ref f) args.pos args.kw) (EP X pins σ Q) X.xe s := by
  refine wpAny_call (codeAny_mono (F.go room gd I.env0 bi r h) fun res s' out => ?_)
  cases res with
  | error err => exact False.elim out
  | ok fl =>
    cases fl with
    | next => exact False.elim out
    | ret u => exact I.after out
    | brk => exact False.elim out
    | cont => exact False.elim out
def tCG (sp : SpG) (t : TA) : TE := fun σ H Q => t σ H fun vs H1 => sp vs H1 Q
theorem pe_callG (F : FnG X.prog X.w X.K X.mg X.base k f fd ps sp) (room : Room k X.A) (gd : X.A.guards = some []) (hg : Gl X x) (hm : X.mg x = some (.ref f)) (hk : PySem.W.keepIn X.K (.ref f) = true) (bi : Binds X.K fd ps []) (ha : PA X (e :: es) t)
    (hdb : (x == ("__debug__" : Str)) = false) (he : starEach (e :: es) X.env = (false, eval e X.env) :: starEach es X.env) (hpl : (backTo pos (starEach es X.env)).any (·.1) = false) : PE X (.Call (.Name x p) (e :: es) [] pos) (tCG sp t) := by
  refine ⟨fun pins s σ H Q I h => wpAny_Call_Name_kw (ld_glob I hg hm ?_ hdb)⟩
  refine PySem.W.callWith_K (h₀ := X.base) I.ok.mod.kin hk (thn (ha.run pos pins s σ H _ I h) fun us s1 ⟨vs, H1, I1, r, q⟩ => ⟨I1.kIn, ?_⟩) he hpl
  have len : (us ++ []).length = ps.length := by rw [List.append_nil, ← r.length]; exact F.cnt q
  have b := bi s1 us I1.kIn len
  rw [List.append_nil] at b
  exact F.calls (args := ⟨us, []⟩) room gd b I1 r q
/-- keywords alone -/
def tCK (sp : SpG) (g : List V → List V) (t : TA) : TE := fun σ H Q => t σ H fun vs H1 => sp (g vs) H1 Q
/-- keywords without positional arguments -/
theorem pe_callGK {g : List Value → List Value → List Value} {gV : List V → List V → List V} (F : FnG X.prog X.w X.K X.mg X.base k f fd ps sp) (room : Room k X.A) (gd : X.A.guards = some []) (hg : Gl X x) (hm : X.mg x = some (.ref f)) (hk : PySem.W.keepIn X.K (.ref f) = true) (bi : KBinds X.K fd ps ks g gV) (hkw : PK X kws tk)
    (hall : (backToKw pos (keywordEach kws X.env)).all (·.1.isSome) = true) (hks : (backToKw pos (keywordEach kws X.env)).filterMap (·.1) = ks) (hdb : (x == ("__debug__" : Str)) = false)
    (hpl : ((backTo pos (starEach [] X.env)).any (·.1) || (backToKw pos (keywordEach kws X.env)).any (·.1.isNone)) = false) : PE X (.Call (.Name x p) [] kws pos) (tCK sp (gV []) tk) := by
  refine ⟨fun pins s σ H Q I h => wpAny_Call_Name_kw (ld_glob I hg hm ?_ hdb)⟩
  refine PySem.W.callWith_KW0 (h₀ := X.base) I.ok.mod.kin hk hall (thn (hkw.run pos pins s σ H _ I h) fun us s1 ⟨vs, H1, I1, r, q⟩ => ⟨I1.kIn, ?_⟩) hpl
  rw [hks]
  have r2 : Vals (gV [] vs) (g [] us) := bi.rel .nil r
  have b := bi.to s1 [] us I1.kIn (by rw [← r2.length]; exact F.cnt q)
  exact F.calls (args := ⟨[], ks.zip us⟩) room gd b I1 r2 q
end
end Ev

set_option Elab.async false
set_option linter.all false
set_option maxRecDepth 100000
set_option maxHeartbeats 4000000
/-! EvO: defs called by mirrors. -/
namespace Ev
open PySem PySem.Spec L2
/-- the promise of a def whose mirror is m -/
def spM (K : PySem.W.Frag) (mg : Str → Option Value) (N : List Str) (np : Nat) (m : M Fl) : SpG := fun vs H Q => vs.length = np ∧ tS K mg W0 m { nx := fun _ H' => Q .non H', rt := Q } (L2.start N vs) H
abbrev FnM (P : Program) (w : World) (K : PySem.W.Frag) (mg : Str → Option Value) (base : Heap) (k : Nat) (f : Addr) (fd : FuncData) (ps N : List Str) (m : M Fl) : Prop := FnG P w K mg base k f fd ps (spM K mg N ps.length m)
section
variable {P : Program} {w : World} {K : PySem.W.Frag} {mg : Str → Option Value} {base : Heap} {x qual : Str} {params : Arguments} {body : List Stmt} {sc : Scope} {f : Addr} {fd : FuncData}
theorem FnM.of {dvs : List V} {kws : List (Str × V)} {N ps : List Str} {k : Nat} {m : M Fl} (D : FunD K x qual params body sc dvs kws f fd) (S : FnScope N ps sc)
    (hb : ∀ (cdv : Value) (A : Around) (out : List Env) (s : Shared) (H : Hp), Room k (A.deeper (PyProof.Rows.envOfC qual sc s.heap.objs.size f cdv)) → (A.deeper (PyProof.Rows.envOfC qual sc s.heap.objs.size f cdv)).guards = some [] →
      SSs (cxOf cx0 P w K mg base N qual sc f cdv A out s H e0).nox W0 body m) : FnM P w K mg base (k + 1) f fd ps N m :=
  FnG.of D S (fun q => q.1) fun cdv A out s H room gd => ⟨_, hb cdv A out s H room gd, fun vs Q q => q.2⟩
end
section
variable {K : PySem.W.Frag} {F : Hp} {B : List (Nat × Addr)} {σ : St} {H : Hp} {e : En} {G : Hp}
theorem hid_of {vs : List Nat} {i : Nat} {b : Bool} {ds : List PyData} {p : Addr} (hi : i ∈ vs) (q : e[i]? = some (.ow b ds)) (hp : σ[i]? = some (some (.ref p))) : hidF F σ H e vs p = H p := by
  unfold hidF
  exact if_pos ⟨i, hi, b, ds, q, hp⟩
theorem hid_F {vs : List Nat} {a : Addr} {o : HO} (s : SR K F B σ H e G) (h : F a = some o) : hidF F σ H e vs a = some o := by
  unfold hidF
  split
  · exact s.frm a o h
  · exact h
theorem lt_of_get {α : Type} {l : List α} {i : Nat} {x : α} (h : l[i]? = some x) : i < l.length := by
  rcases Nat.lt_or_ge i l.length with z | z
  · exact z
  · rw [List.getElem?_eq_none z] at h; cases h
/-- behind a call: the caller's state again -/
theorem SR.ret {B2 : List (Nat × Addr)} {σ2 : St} {H2 : Hp} {e2 : En} {G2 : Hp} (s : SR K F B σ H e G) (s2 : SR K (hidF F σ H e (List.range e.length)) B2 σ2 H2 e2 G2) (m : Same G G2) :
    SR K F B σ H2 e G2 ∧ ∀ v r, RR K (hidF F σ H e (List.range e.length)) σ2 H2 e2 G2 v r → RR K F σ H2 e G2 v r := by
  refine ⟨⟨s.len, s2.sub, fun a o h => s2.frm a o (hid_F s h), fun a o h => s2.dsj a o (hid_F s h), fun i d q => ?_, fun i b ds q => ?_, s.dis⟩, fun v r h => ?_⟩
  · obtain ⟨v, h1, h2⟩ := s.vls i d q
    exact ⟨v, h1, h2.up m⟩
  · obtain ⟨p, vs, h1, h2, h3, h4, h5, h6⟩ := s.ows i b ds q
    have hf : hidF F σ H e (List.range e.length) p = some (.lst vs) := by rw [hid_of (List.mem_range.mpr (lt_of_get q)) q h1]; exact h4
    exact ⟨p, vs, h1, s2.dsj p _ hf, h3, s2.frm p _ hf, h5.up m, h6⟩
  · unfold RR at h ⊢
    cases hr : r.fr with
    | false => rw [hr] at h; exact h
    | true =>
      rw [hr] at h
      obtain ⟨p, vs, ds, rfl, z1, z2, z3, z4, z5, z6⟩ := h
      have nF : F p = none := by
        cases q : F p with
        | none => rfl
        | some o => rw [hid_F s q] at z3; cases z3
      refine ⟨p, vs, ds, rfl, z1, z2, nF, z4, z5, fun i b es q z => ?_⟩
      obtain ⟨p', ws, k1, k2, k3, k4, _⟩ := s.ows i b es q
      rw [z] at k1
      cases k1
      rw [hid_of (List.mem_range.mpr (lt_of_get q)) q z, k4] at z3
      cases z3
theorem get_app_vl {ds : List PyData} {k i : Nat} {x : Sl} (h : (ds.map Sl.vl ++ List.replicate k Sl.un)[i]? = some x) : (∃ d, ds[i]? = some d ∧ x = .vl d) ∨ x = .un := by
  rcases Nat.lt_or_ge i ds.length with z | z
  · rw [List.getElem?_append_left (by simpa using z), List.getElem?_map] at h
    cases q : ds[i]? with
    | none => rw [q] at h; cases h
    | some d => rw [q] at h; cases h; exact .inl ⟨d, rfl, rfl⟩
  · rw [List.getElem?_append_right (by simpa using z)] at h
    exact .inr (List.eq_of_mem_replicate (List.mem_of_getElem? h))
theorem SR.callee (s : SR K F B σ H e G) {vs : List V} {ds : List PyData} (r : RpAll K G vs ds) (k : Nat) : SR K (hidF F σ H e (List.range e.length)) [] (vs.map some ++ List.replicate k none) H (ds.map Sl.vl ++ List.replicate k Sl.un) G := by
  have hs := s.hide (List.range e.length)
  refine ⟨by simp [r.len], s.sub, hs.frm, hs.dsj, fun i d q => ?_, fun i b es q => ?_, fun i j b c es fs p q _ _ _ => ?_⟩
  · rcases get_app_vl q with ⟨d', h1, h2⟩ | h2
    · cases h2
      obtain ⟨v, k1, k2⟩ := r.get h1
      refine ⟨v, ?_, k2⟩
      rw [List.getElem?_append_left (by simpa using lt_of_get k1), List.getElem?_map, k1]
      rfl
    · cases h2
  · rcases get_app_vl q with ⟨d', h1, h2⟩ | h2 <;> cases h2
  · rcases get_app_vl q with ⟨d', h1, h2⟩ | h2 <;> cases h2
end
/-- the mirror of a call -/
def runM (n np : Nat) (m : M Fl) (ds : List PyData) : M RV := fun e => if ds.length = np then match m (ds.map Sl.vl ++ List.replicate (n - np) Sl.un) with
  | some (.ok (.rt r) _) => some (.ok r e)
  | some (.ok .nx _) => some (.ok ⟨.none, false⟩ e)
  | _ => none
  else none
@[simp] def callM (n np : Nat) (m : M Fl) (ms : M (List PyData)) : M RV := do
  let ds ← ms
  runM n np m ds
theorem sp_run {K : PySem.W.Frag} {mg : Str → Option Value} {F : Hp} {B : List (Nat × Addr)} {σ : St} {H : Hp} {e : En} {G : Hp} {N : List Str} {np : Nat} {m : M Fl} {vs : List V} {ds : List PyData} {Q : VK} {Wx : Exn → En → Prop} (s : SR K F B σ H e G) (r : RpAll K G vs ds)
    (k : Ok (runM N.length np m ds) e (fun r e' => ∀ v H' G', SR K F B σ H' e' G' → Same G G' → RR K F σ H' e' G' v r → Q v H') Wx) : spM K mg N np m vs H Q := by
  unfold Ok runM at k
  split at k
  · exact k.elim
  · rename_i a e' q
    split at q
    · rename_i hl
      have sc := s.callee r (N.length - np)
      have st : L2.start N vs = vs.map some ++ List.replicate (N.length - np) none := by unfold L2.start; rw [r.len, hl]
      refine ⟨by rw [r.len]; exact hl, _, G, _, [], by rw [st]; exact sc, ?_⟩
      unfold Ok
      split at q
      · rename_i r2 e2 q2
        cases q
        rw [q2]
        intro v σ2 H2 G2 s2 m2 rr
        obtain ⟨s3, f3⟩ := s.ret s2 m2
        exact k v H2 G2 s3 m2 (f3 _ _ rr)
      · rename_i e2 q2
        cases q
        rw [q2]
        intro σ2 H2 G2 s2 m2
        obtain ⟨s3, f3⟩ := s.ret s2 m2
        exact k .non H2 G2 s3 m2 (show Rp K G2 .non .none from .non)
      · cases q
    · cases q
  · rename_i x e' q
    split at q
    · split at q <;> cases q
    · cases q
section
variable {X : Cx} {W : WX} {k : Nat} {f : Addr} {fd : FuncData} {ps N ks : List Str} {m : M Fl} {x : Str} {p pos : Pos} {e : Expr} {es : List Expr} {kws : List Keyword} {ms : M (List PyData)}
theorem sv_call (Fn : FnM X.prog X.w X.K X.mg X.base k f fd ps N m) (room : Room k X.A) (gd : X.A.guards = some []) (hg : Gl X x) (hm : X.mg x = some (.ref f)) (hk : PySem.W.keepIn X.K (.ref f) = true) (bi : Binds X.K fd ps []) (ha : SVs X W (e :: es) ms)
    (hdb : (x == ("__debug__" : Str)) = false) (he : starEach (e :: es) X.env = (false, eval e X.env) :: starEach es X.env) (hpl : (backTo pos (starEach es X.env)).any (·.1) = false) : SV X W (.Call (.Name x p) (e :: es) [] pos) (callM N.length ps.length m ms) :=
  weakE (pe_callG Fn room gd hg hm hk bi ha hdb he hpl) fun σ H Q ⟨en, G, F, B, s, q⟩ =>
    ⟨en, G, F, B, s, (ok_bind.mp q).imp (fun ds e1 k1 vs H1 G1 s1 m1 r1 => sp_run s1 r1 (k1.imp (fun _ _ z v H' G' a b c => z v H' G' a (m1.trans b) c) fun _ _ z => z)) fun _ _ z => z⟩
/-! keywords -/
abbrev SK (X : Cx) (W : WX) (kws : List Keyword) (m : M (List PyData)) : Prop := PK X kws (tVs X.K X.mg W m)
theorem weakK {t t' : TA} (h : PK X kws t) (k : ∀ σ H Q, t' σ H Q → t σ H Q) : PK X kws t' := ⟨fun pos p s σ H Q I q => h.run pos p s σ H Q I (k σ H Q q)⟩
theorem sk_nil : SK X W [] (pure []) := weakK pk_nil fun σ H Q ⟨en, G, F, B, s, k⟩ => k [] H G s (.refl _) .nil
theorem sk_cons {nm : Option Str} {kp : Pos} {m1 : M RV} (h : SV X W e m1) (hs : SK X W kws ms) : SK X W (⟨nm, e, kp⟩ :: kws) (do let d ← valM m1; let ds ← ms; pure (d :: ds)) := weakK (pk_cons h hs) fun σ H Q ⟨en, G, F, B, s, k⟩ => by
  refine ⟨en, G, F, B, s, (ok_bind.mp (ok_bind.mp k)).imp (fun r e1 k1 v H1 G1 s1 m1 r1 => ?_) fun _ _ x => x⟩
  obtain ⟨G2, s2, m2, r2⟩ := r1.freeze s1
  refine ⟨e1, G2, F, B, s2, (ok_bind.mp k1).imp (fun os e2 k2 vs H3 G3 s3 m3 r3 => ?_) fun _ _ x => x.up (m1.trans m2)⟩
  exact k2 (v :: vs) H3 G3 s3 ((m1.trans m2).trans m3) (.cons (r2.up m3) r3)
def mixL {α : Type} (ix : List Nat) (l : List α) : List α := ix.filterMap fun i => l[i]?
theorem mix_rp {K : PySem.W.Frag} {G : Hp} {vs : List V} {ds : List PyData} (r : RpAll K G vs ds) : ∀ ix : List Nat, RpAll K G (mixL ix vs) (mixL ix ds)
  | [] => .nil
  | i :: ix => by
    unfold mixL
    rw [List.filterMap_cons, List.filterMap_cons]
    cases q : ds[i]? with
    | none =>
      have : vs[i]? = none := by
        rw [List.getElem?_eq_none_iff] at q ⊢
        rw [r.len]; exact q
      rw [this]
      exact mix_rp r ix
    | some d =>
      obtain ⟨v, h1, h2⟩ := r.get q
      rw [h1]
      exact .cons h2 (mix_rp r ix)
theorem mix_vals {vs : List V} {us : List Value} (r : Vals vs us) : ∀ ix : List Nat, Vals (mixL ix vs) (mixL ix us)
  | [] => .nil
  | i :: ix => by
    unfold mixL
    rw [List.filterMap_cons, List.filterMap_cons]
    cases q : vs[i]? with
    | none =>
      have : us[i]? = none := by
        rw [List.getElem?_eq_none_iff] at q ⊢
        rw [← r.length]; exact q
      rw [this]
      exact mix_vals r ix
    | some d =>
      obtain ⟨v, h1, h2⟩ := r.get q
      rw [h1]
      exact .cons h2 (mix_vals r ix)
def mixK {α : Type} (ix : List Nat) (us ws : List α) : List α := match us with
  | [] => mixL ix ws
  | _ => []
theorem kb_mix {K : PySem.W.Frag} {fd : FuncData} {ps ks : List Str} {ix : List Nat} (hp : ps.length ≠ 0) (h : ∀ (s : Shared) (ws : List Value), (mixL ix ws).length = ps.length → BindsTo s fd ⟨[], ks.zip ws⟩ (ps.zip (mixL ix ws))) : KBinds K fd ps ks (mixK ix) (mixK ix) := by
  refine ⟨fun s us ws _ hl => ?_, fun {vs us zs ws} r1 r2 => ?_⟩
  · cases us with
    | nil => exact h s ws hl
    | cons u us => exact absurd hl.symm hp
  · cases r1 with
    | nil => exact mix_vals r2 ix
    | cons _ _ => exact .nil
@[simp] def callKM (ix : List Nat) (n np : Nat) (m : M Fl) (ms : M (List PyData)) : M RV := do
  let ds ← ms
  runM n np m (mixL ix ds)
theorem sv_callK {ix : List Nat} (Fn : FnM X.prog X.w X.K X.mg X.base k f fd ps N m) (room : Room k X.A) (gd : X.A.guards = some []) (hg : Gl X x) (hm : X.mg x = some (.ref f)) (hk : PySem.W.keepIn X.K (.ref f) = true) (bi : KBinds X.K fd ps ks (mixK ix) (mixK ix)) (ha : SK X W kws ms)
    (hall : (backToKw pos (keywordEach kws X.env)).all (·.1.isSome) = true) (hks : (backToKw pos (keywordEach kws X.env)).filterMap (·.1) = ks) (hdb : (x == ("__debug__" : Str)) = false)
    (hpl : ((backTo pos (starEach [] X.env)).any (·.1) || (backToKw pos (keywordEach kws X.env)).any (·.1.isNone)) = false) : SV X W (.Call (.Name x p) [] kws pos) (callKM ix N.length ps.length m ms) :=
  weakE (pe_callGK Fn room gd hg hm hk bi ha hall hks hdb hpl) fun σ H Q ⟨en, G, F, B, s, q⟩ =>
    ⟨en, G, F, B, s, (ok_bind.mp q).imp (fun ds e1 k1 vs H1 G1 s1 m1 r1 => sp_run s1 (mix_rp r1 ix) (k1.imp (fun _ _ z v H' G' a b c => z v H' G' a (m1.trans b) c) fun _ _ z => z)) fun _ _ z => z⟩
end

/-! ### the first argument is lent -/
section
variable {K : PySem.W.Frag} {F : Hp} {B : List (Nat × Addr)} {σ : St} {H : Hp} {e : En} {G : Hp}
/-- all slots but one -/
def others (n i : Nat) : List Nat := (List.range n).filter (· != i)
theorem mem_others {n i j : Nat} (h : j < n) (ne : j ≠ i) : j ∈ others n i := List.mem_filter.mpr ⟨List.mem_range.mpr h, by simpa using ne⟩
theorem not_others {n i : Nat} : i ∉ others n i := fun h => by simpa using (List.mem_filter.mp h).2
theorem SR.retP {i : Nat} {b : Bool} {ds0 ds1 : List PyData} {p : Addr} {σ2 : St} {H2 : Hp} {e2 : En} {G2 : Hp} (s : SR K F B σ H e G) (qi : e[i]? = some (.ow b ds0)) (hp : σ[i]? = some (some (.ref p)))
    (s2 : SR K (hidF F σ H e (others e.length i)) [(0, p)] σ2 H2 e2 G2) (q2 : e2[(0 : Nat)]? = some (.ow true ds1)) (m : Same G G2) :
    SR K F B σ H2 (e.set i (.ow b ds1)) G2 ∧ ∀ v r, RR K (hidF F σ H e (others e.length i)) σ2 H2 e2 G2 v r → RR K F σ H2 (e.set i (.ow b ds1)) G2 v r := by
  obtain ⟨p0, vs0, k1, k2, k3, k4, k5, k6⟩ := s.ows i b ds0 qi
  rw [hp] at k1
  cases k1
  obtain ⟨p2, vs2, l1, l2, l3, l4, l5, l6⟩ := s2.ows 0 true ds1 q2
  have pp : p2 = p := by
    have := l6 rfl
    simp at this
    exact this
  subst pp
  have hf : ∀ {j : Nat} {c : Bool} {es : List PyData} {a : Addr}, j ≠ i → e[j]? = some (.ow c es) → σ[j]? = some (some (.ref a)) → hidF F σ H e (others e.length i) a = H a := fun ne q z => hid_of (mem_others (lt_of_get q) ne) q z
  have old : ∀ {j : Nat} {c : Bool} {es : List PyData}, (e.set i (.ow b ds1))[j]? = some (.ow c es) → ∃ es', e[j]? = some (.ow c es') := fun {j c es} z => by
    rcases set_get z with ⟨rfl, w⟩ | ⟨_, w⟩
    · cases w; exact ⟨_, qi⟩
    · exact ⟨_, w⟩
  refine ⟨⟨by simp [s.len], s2.sub, fun a o h => s2.frm a o (hid_F s h), fun a o h => s2.dsj a o (hid_F s h), fun j d q => ?_, fun j c es q => ?_, fun j l c c' es fs p' z1 z2 z3 z4 => ?_⟩, fun v r h => ?_⟩
  · rcases set_get q with ⟨_, w⟩ | ⟨_, w⟩
    · cases w
    · obtain ⟨v, h1, h2⟩ := s.vls j d w
      exact ⟨v, h1, h2.up m⟩
  · rcases set_get q with ⟨rfl, w⟩ | ⟨ne, w⟩
    · cases w
      exact ⟨p2, vs2, hp, l2, k3, l4, l5, k6⟩
    · obtain ⟨pj, vs, h1, h2, h3, h4, h5, h6⟩ := s.ows j c es w
      have z : hidF F σ H e (others e.length i) pj = some (.lst vs) := by rw [hf ne w h1]; exact h4
      exact ⟨pj, vs, h1, s2.dsj pj _ z, h3, s2.frm pj _ z, h5.up m, h6⟩
  · obtain ⟨es', w1⟩ := old z1
    obtain ⟨fs', w2⟩ := old z2
    exact s.dis j l c c' es' fs' p' w1 w2 z3 z4
  · unfold RR at h ⊢
    cases hr : r.fr with
    | false => rw [hr] at h; exact h
    | true =>
      rw [hr] at h
      obtain ⟨a, vs, ds, rfl, z1, z2, z3, z4, z5, z6⟩ := h
      have nF : F a = none := by
        cases q : F a with
        | none => rfl
        | some o => rw [hid_F s q] at z3; cases z3
      refine ⟨a, vs, ds, rfl, z1, z2, nF, z4, z5, fun j c es q z => ?_⟩
      rcases set_get q with ⟨rfl, w⟩ | ⟨ne, w⟩
      · rw [hp] at z
        cases z
        exact z6 0 true ds1 q2 l1
      · obtain ⟨p', ws, y1, _, _, y4, _⟩ := s.ows j c es w
        rw [z] at y1
        cases y1
        rw [hf ne w z, y4] at z3
        cases z3
theorem SR.calleeP (s : SR K F B σ H e G) {i : Nat} {b : Bool} {ds0 : List PyData} {p : Addr} (qi : e[i]? = some (.ow b ds0)) (hp : σ[i]? = some (some (.ref p))) {vs : List V} {ds : List PyData} (r : RpAll K G vs ds) (k : Nat) :
    SR K (hidF F σ H e (others e.length i)) [(0, p)] (some (.ref p) :: (vs.map some ++ List.replicate k none)) H (.ow true ds0 :: (ds.map Sl.vl ++ List.replicate k Sl.un)) G := by
  have hs := s.hide (others e.length i)
  obtain ⟨p0, vs0, k1, k2, k3, k4, k5, k6⟩ := s.ows i b ds0 qi
  rw [hp] at k1
  cases k1
  refine ⟨by simp [r.len], s.sub, hs.frm, hs.dsj, fun j d q => ?_, fun j c es q => ?_, fun j l c c' es fs a q1 q2 _ _ => ?_⟩
  · cases j with
    | zero => cases q
    | succ j =>
      rcases get_app_vl (i := j) (by simpa using q) with ⟨d', h1, h2⟩ | h2
      · cases h2
        obtain ⟨v, k1, k2⟩ := r.get h1
        refine ⟨v, ?_, k2⟩
        rw [List.getElem?_cons_succ, List.getElem?_append_left (by simpa using lt_of_get k1), List.getElem?_map, k1]
        rfl
      · cases h2
  · cases j with
    | zero =>
      cases q
      refine ⟨p, vs0, rfl, k2, ?_, k4, k5, fun _ => by simp⟩
      unfold hidF
      rw [if_neg]
      · exact k3
      · rintro ⟨j, mj, c, es, z1, z2⟩
        obtain rfl := s.dis i j b c ds0 es p qi z1 hp z2
        exact not_others mj
    | succ j => rcases get_app_vl (i := j) (by simpa using q) with ⟨d', h1, h2⟩ | h2 <;> cases h2
  · cases j with
    | zero =>
      cases l with
      | zero => rfl
      | succ l => rcases get_app_vl (i := l) (by simpa using q2) with ⟨d', h1, h2⟩ | h2 <;> cases h2
    | succ j => rcases get_app_vl (i := j) (by simpa using q1) with ⟨d', h1, h2⟩ | h2 <;> cases h2
end
def lentD (e2 : En) : Option (List PyData) := match e2[(0 : Nat)]? with
  | some (.ow true ds1) => some ds1
  | _ => none
theorem lentD_some {e2 : En} {ds1 : List PyData} (h : lentD e2 = some ds1) : e2[(0 : Nat)]? = some (.ow true ds1) := by
  unfold lentD at h
  split at h
  · rename_i z; cases h; exact z
  · cases h
def runPM (i n np : Nat) (m : M Fl) (ds : List PyData) : M RV := fun e => match e[i]? with
  | some (.ow b ds0) => if ds.length + 1 = np then match m (.ow true ds0 :: (ds.map Sl.vl ++ List.replicate (n - np) Sl.un)) with
    | some (.ok (.rt r) e2) => (lentD e2).map fun ds1 => .ok r (e.set i (.ow b ds1))
    | some (.ok .nx e2) => (lentD e2).map fun ds1 => .ok ⟨.none, false⟩ (e.set i (.ow b ds1))
    | _ => none
    else none
  | _ => none
theorem map_ok {α β : Type} {o : Option α} {f : α → β} {b : β} (h : o.map f = some b) : ∃ a, o = some a ∧ f a = b := by
  cases o with
  | none => cases h
  | some a => exact ⟨a, rfl, Option.some.inj h⟩
@[simp] def callPM (i n np : Nat) (m : M Fl) (ms : M (List PyData)) : M RV := do
  ownM i
  let ds ← ms
  runPM i n np m ds
theorem sp_runP {K : PySem.W.Frag} {mg : Str → Option Value} {F : Hp} {B : List (Nat × Addr)} {σ : St} {H : Hp} {e : En} {G : Hp} {N : List Str} {np i : Nat} {m : M Fl} {v0 : V} {vs : List V} {ds : List PyData} {Q : VK} {Wx : Exn → En → Prop} (s : SR K F B σ H e G) (hv : σ[i]? = some (some v0)) (r : RpAll K G vs ds)
    (k : Ok (runPM i N.length np m ds) e (fun r e' => ∀ v H' G', SR K F B σ H' e' G' → Same G G' → RR K F σ H' e' G' v r → Q v H') Wx) : spM K mg N np m (v0 :: vs) H Q := by
  unfold Ok at k
  split at k
  · exact k.elim
  · rename_i a e' q
    unfold runPM at q
    split at q
    · rename_i b ds0 qi
      obtain ⟨p, vs0, h1, h2, h3, h4, h5, h6⟩ := s.ows i b ds0 qi
      rw [hv] at h1
      cases h1
      split at q
      · rename_i hl
        have sc := s.calleeP qi hv r (N.length - np)
        have st : L2.start N (.ref p :: vs) = some (.ref p) :: (vs.map some ++ List.replicate (N.length - np) none) := by
          unfold L2.start
          rw [List.length_cons, r.len, hl]
          rfl
        refine ⟨by rw [List.length_cons, r.len]; exact hl, _, G, _, _, by rw [st]; exact sc, ?_⟩
        unfold Ok
        split at q
        · rename_i r2 e2 q2
          obtain ⟨ds1, q3, q4⟩ := map_ok q
          cases q4
          rw [q2]
          intro v σ2 H2 G2 s2 m2 rr
          obtain ⟨s3, f3⟩ := s.retP qi hv s2 (lentD_some q3) m2
          exact k v H2 G2 s3 m2 (f3 _ _ rr)
        · rename_i e2 q2
          obtain ⟨ds1, q3, q4⟩ := map_ok q
          cases q4
          rw [q2]
          intro σ2 H2 G2 s2 m2
          obtain ⟨s3, f3⟩ := s.retP qi hv s2 (lentD_some q3) m2
          exact k .non H2 G2 s3 m2 (show Rp K G2 .non .none from .non)
        · cases q
      · cases q
    · cases q
  · rename_i x e' q
    unfold runPM at q
    split at q
    · split at q
      · split at q
        · obtain ⟨_, _, z⟩ := map_ok q; cases z
        · obtain ⟨_, _, z⟩ := map_ok q; cases z
        · cases q
      · cases q
    · cases q
section
variable {X : Cx} {W : WX} {k i : Nat} {f : Addr} {fd : FuncData} {ps N ks : List Str} {m : M Fl} {x : Str} {p pos : Pos} {e : Expr} {es : List Expr} {ms : M (List PyData)}
theorem sv_callP (Fn : FnM X.prog X.w X.K X.mg X.base k f fd ps N m) (room : Room k X.A) (gd : X.A.guards = some []) (hg : Gl X x) (hm : X.mg x = some (.ref f)) (hk : PySem.W.keepIn X.K (.ref f) = true) (bi : Binds X.K fd ps []) (h0 : PE X e (tVar i)) (ha : SVs X W es ms)
    (hdb : (x == ("__debug__" : Str)) = false) (he : starEach (e :: es) X.env = (false, eval e X.env) :: starEach es X.env) (hpl : (backTo pos (starEach es X.env)).any (·.1) = false) : SV X W (.Call (.Name x p) (e :: es) [] pos) (callPM i N.length ps.length m ms) :=
  weakE (pe_callG Fn room gd hg hm hk bi (pa_cons h0 ha he) hdb he hpl) fun σ H Q ⟨en, G, F, B, s, q⟩ => by
    obtain ⟨⟨b, ds0, qi⟩, q⟩ := ok_own (ok_bind.mp q)
    obtain ⟨pp, vs0, h1, _⟩ := s.ows i b ds0 qi
    exact ⟨_, h1, en, G, F, B, s, (ok_bind.mp q).imp (fun ds e1 k1 vs H1 G1 s1 m1 r1 => sp_runP s1 h1 r1 (k1.imp (fun _ _ z v H' G' a b c => z v H' G' a (m1.trans b) c) fun _ _ z => z)) fun _ _ z => z⟩
end
end Ev

set_option Elab.async false
set_option linter.all false
set_option maxRecDepth 100000
set_option maxHeartbeats 4000000
/-! EvP: the law's end. -/
namespace Ev
open PySem PySem.Spec PyProof.Rows L2
section
variable {P : Program} {w : World} {K : PySem.W.Frag} {mg mb : Str → Option Value} {k : Nat} {fa a : Addr} {fd : FuncData} {x : Str} {sp : SpG} {s1 : Shared} {us : List Value} {nums : List Int}
/-- how the script is tracked: at most its own object -/
structure Scr (K : PySem.W.Frag) (P : Program) (w : World) (s1 : Shared) (a : Addr) (H : Hp) : Prop where
  one : ∀ b u, H b = some u → b = a ∧ (∃ o zs, u = .frz o (.lst zs)) ∧ K.lookup b = none
  fine : HOk P w H s1.heap
theorem run_core (inK : K.In s1.heap) (gl : s1.heap.Ns mainGlobals mg) (bl : s1.heap.Ns builtinsNs mb) (bb : ∀ y : Str, y ≠ "__name__" → mb y = bootBuiltins y) (nolim : s1.heap.NoLimit) (gens : s1.gens = #[])
    (ob : s1.heap.get? a = some { cls := .type "list", data := .seq us.toArray }) (room : Room k callerA)
    (F : ∀ base : Heap, K.In base → base.Ns mainGlobals mg → FnG P w K mg base k fa fd [x] sp) (bi : ∀ (s : Shared) (u : Value), BindsTo s fd ⟨[u], []⟩ [(x, u)])
    {H : Hp} (sc : Scr K P w s1 a H) (hsp : sp [.ref a] H fun v _ => v = .bl true) :
    codeAny (model P w) callerA (.call (.ref fa) ⟨[.ref a], []⟩) (fun r s' => r = .ok (.ret (.bool true)) ∧ OldK s1.heap s'.heap ∧ s'.os = s1.os ∧ AllBare s'.gens) s1 := by
  have dict : ∀ {b : Addr} {o : Obj} {es : Array DictEntry} {ep : Nat}, s1.heap.get? b = some o → o.data = .dict es ep → H b = none := fun {b o es ep} z d => by
    cases q : H b with
    | none => rfl
    | some u =>
      obtain ⟨rfl, _⟩ := sc.one b u q
      rw [ob] at z
      cases z
      cases (show Data.seq us.toArray _ = Data.dict es ep from d)
  have names : ∀ {b : Addr} {m : Str → Option Value}, s1.heap.Ns b m → (hidT s1.heap H).Ns b m := fun {b m} z => by
    obtain ⟨o, es, ep, z1, z2, z3⟩ := z
    exact ⟨o, es, ep, hidT_get z1 (dict z1 z2), z2, z3⟩
  have inB : K.In (hidT s1.heap H) := fun b o z => hidT_get (inK b o z) (by
    cases q : H b with
    | none => rfl
    | some u =>
      obtain ⟨_, _, z'⟩ := sc.one b u q
      rw [z] at z'
      cases z')
  obtain ⟨mc, n1, n2⟩ := nolim
  have en : Env0 P w K mg (hidT s1.heap H) callerA [] s1 H :=
    { frames := rfl, mod := ⟨inB, names gl, ⟨mb, names bl, bb⟩, mc, names n1, n2⟩, bs := fun _ _ z => of_hidT z, bsz := Nat.le_of_eq (hidT_size _ _), funs := trivial, frf := fun _ z => by simp [frs] at z, hok := sc.fine, bare := .of_eq gens }
  have G := (F _ inB (names gl)).go (out := []) (args := ⟨[.ref a], []⟩) (us := [.ref a]) room rfl en (bi s1 (.ref a)) (vs := [V.ref a]) (.cons rfl .nil) hsp
  refine codeAny_mono G fun r s' z => ?_
  cases r with
  | error err => exact False.elim z
  | ok fl =>
    cases fl with
    | next => exact False.elim z
    | brk => exact False.elim z
    | cont => exact False.elim z
    | ret u =>
      obtain ⟨v, H', o1, o2, un, ok2, rv, q⟩ := z
      have q : v = .bl true := q
      subst q
      have eu : u = Value.bool true := rv
      subst eu
      refine ⟨rfl, OldK.of_keep fun b o z => ?_, o1, o2⟩
      cases q : H b with
      | none => exact un.keep b o z q (by simp [frs]) (by simp)
      | some y =>
        obtain ⟨_, ⟨oo, zs, rfl⟩, _⟩ := sc.one b y q
        have y1 := sc.fine b _ q
        have y2 := ok2 b _ (un.frzs b oo _ q)
        rw [y1.1] at z
        cases z
        exact y2.1
theorem run_lawG (inK : K.In s1.heap) (gl : s1.heap.Ns mainGlobals mg) (bl : s1.heap.Ns builtinsNs mb) (bb : ∀ y : Str, y ≠ "__name__" → mb y = bootBuiltins y) (nolim : s1.heap.NoLimit) (gens : s1.gens = #[])
    (ob : s1.heap.get? a = some { cls := .type "list", data := .seq us.toArray }) (wh : IntsAre us nums) (len : nums.length ≤ sizeLine) (room : Room k callerA)
    (F : ∀ base : Heap, K.In base → base.Ns mainGlobals mg → FnG P w K mg base k fa fd [x] sp) (bi : ∀ (s : Shared) (u : Value), BindsTo s fd ⟨[u], []⟩ [(x, u)])
    (hsp : ∀ H : Hp, Only H → LsR K H a (nums.map V.int) → sp [.ref a] H fun v _ => v = .bl true) :
    codeAny (model P w) callerA (.call (.ref fa) ⟨[.ref a], []⟩) (fun r s' => r = .ok (.ret (.bool true)) ∧ OldK s1.heap s'.heap ∧ s'.os = s1.os ∧ AllBare s'.gens) s1 := by
  have rv := vals_ints wh
  have lv := wh.length
  cases hk : K.lookup a with
  | some o =>
    have z := inK a o hk
    rw [ob] at z
    cases z
    refine run_core inK gl bl bb nolim gens ob room F bi (H := fun _ => none) ⟨fun b u z => (by cases z), fun b u z => (by cases z)⟩ (hsp _ (fun _ => .inl rfl) (.inr ⟨us, _, hk, rv, by rw [List.length_map]; exact len⟩))
  | none =>
    let H : Hp := upd (fun _ => none) a (.frz { cls := .type "list", data := .seq us.toArray } (.lst (nums.map V.int)))
    have at_a : H a = some (.frz { cls := .type "list", data := .seq us.toArray } (.lst (nums.map V.int))) := upd_same
    have only : ∀ b u, H b = some u → b = a ∧ u = .frz { cls := .type "list", data := .seq us.toArray } (.lst (nums.map V.int)) := fun b u z => by
      by_cases e : b = a
      · subst e
        rw [at_a] at z
        cases z
        exact ⟨rfl, rfl⟩
      · rw [show H b = none from upd_ne e] at z
        cases z
    refine run_core inK gl bl bb nolim gens ob room F bi (H := H) ⟨fun b u z => ?_, fun b u z => ?_⟩ (hsp H (fun b => ?_) (.inl (.inr ⟨_, at_a⟩)))
    · obtain ⟨rfl, rfl⟩ := only b u z
      exact ⟨rfl, ⟨_, _, rfl⟩, hk⟩
    · obtain ⟨rfl, rfl⟩ := only b u z
      exact ⟨ob, by rw [List.length_map]; exact len, us, _, rv, ob⟩
    · cases q : H b with
      | none => exact .inl rfl
      | some u =>
        obtain ⟨rfl, rfl⟩ := only b u q
        exact .inr ⟨_, _, rfl⟩
end
/-- the goal that a head leaves, from the promise of the law's def -/
theorem walk_G {l : PySem.W.OpenLaw} {n k : Nat} {q : Program} {loose : List Str} {XP : (Str → Option Value) → Heap → Prop} {YP : World → Heap → Prop} {d : DefRec} {x : Str} (hn : l.most = some n) (hn2 : n ≤ sizeLine) (hdf : d.params.defaults = []) (room : Room k callerA)
    (F : ∀ (w : World) (mg : Str → Option Value) (fa : Addr) (h : Heap), YP w h → h.Ns mainGlobals mg → mg d.name = some (.ref fa) → ∃ (K : PySem.W.Frag) (fd : FuncData) (sp : SpG), K.In h ∧ (∀ (s : Shared) (u : Value), BindsTo s fd ⟨[u], []⟩ [(x, u)]) ∧
      (∀ (H : Hp) (a : Addr) (nums : List Int), nums.length ≤ n → Only H → LsR K H a (nums.map V.int) → sp [.ref a] H fun v _ => v = .bl true) ∧ ∀ base : Heap, K.In base → base.Ns mainGlobals mg → FnG l.prog w K mg base k fa fd [x] sp) :
    PySem.W.WalkO q loose XP YP l.row.toRowW d [] (fun f vs => PySem.call f vs) := by
  refine Att.attach_call hn hdf fun w s0 s1 mg mb fa o pm cd doc a us nums G Y ho hd hcd hmg ob wh len gens => ?_
  obtain ⟨K, fd, sp, inK, bi, hsp, hF⟩ := F w mg fa _ Y G.T.g hmg
  exact run_lawG inK G.T.g G.T.b G.T.builtins G.T.nolimit gens ob wh (Nat.le_trans len hn2) room hF bi fun H ho hS => hsp H a nums len ho hS
/-- the law's def by its mirror -/
theorem law_sp {K : PySem.W.Frag} {mg : Str → Option Value} {N : List Str} {m : M Fl} {H : Hp} {a : Addr} {nums : List Int} {e2 : En} (hS : LsR K H a (nums.map V.int)) (hm : m (.vl (.list (nums.map PyData.int)) :: List.replicate (N.length - 1) .un) = some (.ok (.rt ⟨.bool true, false⟩) e2)) :
    spM K mg N 1 m [.ref a] H fun v _ => v = .bl true := by
  have g1 : ∀ {α : Type} {x y : α} {k i : Nat} {z : α}, (x :: List.replicate k y)[i]? = some z → (i = 0 ∧ z = x) ∨ z = y := fun {α x y k i z} q => by
    cases i with
    | zero => cases q; exact .inl ⟨rfl, rfl⟩
    | succ i => exact .inr (List.eq_of_mem_replicate (List.mem_of_getElem? q))
  refine ⟨rfl, .vl (.list (nums.map PyData.int)) :: List.replicate (N.length - 1) .un, H, fun _ => none, [], ⟨?_, .refl _, fun _ _ z => (by cases z), fun _ _ z => (by cases z), fun i d q => ?_, fun i b ds q => ?_, fun i j b c ds es p q _ _ _ => ?_⟩, ?_⟩
  · unfold L2.start; simp
  · rcases g1 q with ⟨rfl, z⟩ | z
    · cases z
      exact ⟨_, rfl, .lst hS (rps_ints nums)⟩
    · cases z
  · rcases g1 q with ⟨rfl, z⟩ | z <;> cases z
  · rcases g1 q with ⟨rfl, z⟩ | z <;> cases z
  · unfold Ok
    rw [hm]
    intro v σ' H' G' s m rr
    have rr : Rp K G' v (.bool true) := rr
    cases rr
    rfl
end Ev

set_option Elab.async false
set_option linter.all false
set_option maxRecDepth 100000
set_option maxHeartbeats 4000000
/-! EvQ: min of data, sets of numbers. -/
namespace Ev
open PySem PySem.Spec L2
/-! ### min of alike data -/
def notNone : PyData → Bool
  | .none => false
  | _ => true
theorem notNone_ok {ds : List PyData} (h : ds.all notNone = true) : ∀ x ∈ ds, x ≠ .none := fun x hx z => by
  have := List.all_eq_true.mp h x hx
  subst z
  cases this
def minA : List PyData → Option RV
  | [.list (d :: ds)] => if alikeL (d :: ds) = true ∧ (d :: ds).all notNone = true ∧ PyData.depthAll (d :: ds) ≤ 60 then lit (PySem.W.minD d ds) else none
  | _ => none
def rMinA (K : PySem.W.Frag) : List V → Hp → VK → Prop := fun xs H Q => ∃ p vs d ds, xs = [.ref p] ∧ LsR K H p vs ∧ L2.DpAll K H vs (d :: ds) ∧ PySem.W.AlikeAll (d :: ds) ∧ PyData.depthAll (d :: ds) ≤ 60 ∧
  ∀ (i : Nat) (v : V), vs[i]? = some v → L2.Dp K H v (PySem.W.minD d ds) → (d :: ds)[i]? = some (PySem.W.minD d ds) → Q v H
theorem dpAll_get {K : PySem.W.Frag} {H : Hp} : ∀ {vs : List V} {ds : List PyData} {i : Nat} {v : V}, L2.DpAll K H vs ds → vs[i]? = some v → ∃ d, ds[i]? = some d ∧ L2.Dp K H v d
  | _, _, _, _, .nil, q => by simp at q
  | _, _, 0, _, .cons h _, q => by simp at q; subst q; exact ⟨_, rfl, h⟩
  | _, _, i + 1, _, .cons _ t, q => by
    obtain ⟨d, h1, h2⟩ := dpAll_get (i := i) t (by simpa using q)
    exact ⟨d, by simpa using h1, h2⟩
section
variable {X : Cx}
theorem cr_minA (hc : X.calm = true) (hu : X.A.units + 100 < cLine) : CallR X (.builtin "min") (rMinA X.K) := by
  intro pins s σ H xs us Q I r ⟨p, vs, d, ds, ex, hp, hd, al, dp, q⟩
  subst ex
  rw [Vals.ref1 r]
  obtain ⟨z, its, n, rv, e⟩ := lstR I hp
  obtain ⟨as, rd⟩ := Dp.readsAll I _ _ _ hd rv
  refine PySem.W.min_list_data (I.ok.hd hc) ⟨_, e, rfl, n, rfl⟩ (x := d) (xs := ds) (by simpa using rd) al (by omega) fun i v h' tk bs gi gr kp => ?_
  have I' := I.kept (t' := tk) kp
  have gi : its[i]? = some v := by simpa using gi
  obtain ⟨x, h1, h2⟩ := vals_at rv (i := i) (u := v) (by simpa using gi)
  obtain ⟨dx, h3, h4⟩ := dpAll_get hd h1
  obtain ⟨as2, r2⟩ := Dp.reads I' _ _ _ h4 h2
  have e2 := (Reads.unique r2 _ _ gr).1
  subst e2
  exact ⟨x, H, I', h2, q i x h1 h4 h3⟩
end
theorem ok_minA {K : PySem.W.Frag} : RLok K (rMinA K) minA := by
  intro F B σ H e G xs ds res Q s hd h k
  unfold minA at h
  split at h
  · rename_i d ds
    split at h
    · rename_i z
      cases h
      obtain ⟨x, rfl, hx⟩ := dws1 hd
      obtain ⟨p, vs, rfl, h1, h2⟩ := hx.lst s.sub
      refine ⟨p, vs, d, ds, rfl, h1, rps_dp _ _ (h2.up s.sub), ⟨alikeL_ok z.1, notNone_ok z.2.1⟩, z.2.2, fun i v hv _ hm => ?_⟩
      obtain ⟨dv, g1, g2⟩ := h2.getV hv
      rw [hm] at g1
      cases g1
      exact k.rp s g2
    · cases h
  · cases h

/-! ### len(set(..)), sorted(set(..)) -/
def distL (ns : List Int) : List Int := ns.foldl PyProof.Rows.step_dedup []
theorem step_any (acc : List Int) (x : Int) : PyProof.Rows.step_dedup acc x = if acc.any (· == x) then acc else acc ++ [x] := rfl
theorem dist_go : ∀ (ns acc : List Int), acc.Nodup → (ns.foldl PyProof.Rows.step_dedup acc).Nodup ∧ ∀ k, k ∈ ns.foldl PyProof.Rows.step_dedup acc ↔ k ∈ acc ∨ k ∈ ns
  | [], acc, h => ⟨h, fun k => by simp⟩
  | n :: ns, acc, h => by
    rw [List.foldl_cons, step_any]
    by_cases hn : n ∈ acc
    · have e : acc.any (· == n) = true := List.any_eq_true.mpr ⟨n, hn, beq_self_eq_true n⟩
      rw [if_pos e]
      obtain ⟨h1, h2⟩ := dist_go ns acc h
      refine ⟨h1, fun k => (h2 k).trans ⟨fun z => z.imp id (List.mem_cons_of_mem _), fun z => z.elim .inl fun z => ?_⟩⟩
      rcases List.mem_cons.mp z with rfl | z
      · exact .inl hn
      · exact .inr z
    · have e : ¬ acc.any (· == n) = true := fun z => by
        obtain ⟨y, hy, ey⟩ := List.any_eq_true.mp z
        exact hn (eq_of_beq ey ▸ hy)
      rw [if_neg e]
      have nd : (acc ++ [n]).Nodup := List.nodup_append.mpr ⟨h, by simp, fun a ha b hb z => by
        rw [List.mem_singleton] at hb
        exact hn (by rw [← hb, ← z]; exact ha)⟩
      obtain ⟨h1, h2⟩ := dist_go ns (acc ++ [n]) nd
      refine ⟨h1, fun k => (h2 k).trans ?_⟩
      simp [or_assoc]
theorem dist_nodup (ns : List Int) : (distL ns).Nodup := (dist_go ns [] List.nodup_nil).1
theorem mem_dist {ns : List Int} {k : Int} : k ∈ distL ns ↔ k ∈ ns := ((dist_go ns [] List.nodup_nil).2 k).trans (by simp)
theorem range_getD (ns : List Int) : (List.range ns.length).map (fun i => ns.getD i 0) = ns := by
  refine List.ext_getElem (by simp) fun i h1 h2 => ?_
  rw [List.getElem_map, List.getElem_range, List.getD_eq_getElem?_getD, List.getElem?_eq_getElem h2]
  rfl
theorem firstMet_dist {ns : List Int} {n : Nat} (h : n = ns.length) : PyProof.Rows.firstMet (fun i => ns.getD i 0) n = distL ns := by
  subst h
  unfold PyProof.Rows.firstMet
  rw [range_getD]
  rfl
def numsOf (d : PyData) : Option (List Int) := (itemsOf d).bind intsOf
def lenSetD (d : PyData) : Option RV := (numsOf d).bind fun ns => if ns.length ≤ 1000 then lit (.int (distL ns).length) else none
def sortN (ns : List Int) : List Int := ns.mergeSort fun a b => decide (a ≤ b)
def sortSetD (d : PyData) : Option RV := match d with
  | .tuple ds => (intsOf ds).bind fun ns => if ns.length ≤ 60 then some ⟨.list ((sortN (distL ns)).map .int), true⟩ else none
  | _ => none
theorem lt_ext : ∀ {xs ys : List Int}, xs.Pairwise (· < ·) → ys.Pairwise (· < ·) → (∀ k, k ∈ xs ↔ k ∈ ys) → xs = ys
  | [], [], _, _, _ => rfl
  | [], y :: ys, _, _, h => absurd ((h y).mpr List.mem_cons_self) (by simp)
  | x :: xs, [], _, _, h => absurd ((h x).mp List.mem_cons_self) (by simp)
  | x :: xs, y :: ys, h1, h2, h => by
    obtain ⟨a1, b1⟩ := List.pairwise_cons.mp h1
    obtain ⟨a2, b2⟩ := List.pairwise_cons.mp h2
    have e : x = y := by
      rcases List.mem_cons.mp ((h x).mp List.mem_cons_self) with e | e
      · exact e
      · rcases List.mem_cons.mp ((h y).mpr List.mem_cons_self) with e' | e'
        · exact e'.symm
        · have p := a2 x e
          have q := a1 y e'
          omega
    subst e
    rw [lt_ext b1 b2 fun k => ⟨fun z => ?_, fun z => ?_⟩]
    · rcases List.mem_cons.mp ((h k).mp (List.mem_cons_of_mem _ z)) with e | e
      · subst e
        exact absurd (a1 k z) (by omega)
      · exact e
    · rcases List.mem_cons.mp ((h k).mpr (List.mem_cons_of_mem _ z)) with e | e
      · subst e
        exact absurd (a2 k z) (by omega)
      · exact e
theorem sortN_lt {ns : List Int} (h : ns.Nodup) : (sortN ns).Pairwise (· < ·) := by
  have p : (sortN ns).Pairwise fun a b => decide (a ≤ b) = true := List.pairwise_mergeSort (fun a b c h1 h2 => by simp at h1 h2 ⊢; omega) (fun a b => by simp; omega) ns
  have nd : (sortN ns).Nodup := (List.mergeSort_perm ns _).nodup_iff.mpr h
  exact L2.lt_of_le_nodup _ (p.imp fun h => by simpa using h) nd
section
variable {X : Cx} {W : WX} {a : Expr} {ma : M OV} {p p2 q pos : Pos}
/-- set of a list or tuple of numbers -/
theorem set_made {pins : List (Addr × Obj)} {σ : St} {H : Hp} {s : Shared} {t : Bool} {l : Addr} {ns : List Int} {E : Value → Shared → Prop} {Q : Value → Shared → Prop} (hc : X.calm = true) (I : Inv X pins σ H s) (hq : SqA X.K t H l (ns.map V.int)) (hl : ns.length ≤ 1000)
    (k : ∀ (h' : Heap) (tk : Nat) (o : Obj) (es : Array (Int × Value)) (ep : Nat) (tb : SetTable), h'.get? s.heap.objs.size = some o → o.ExactSet → o.data = .set es ep tb → tb.fits es.size = true → es.size = (distL ns).length → Inv X pins σ H { s with heap := h', toks := tk } → Q (.ref s.heap.objs.size) { s with heap := h', toks := tk }) :
    wpAny (model X.prog X.w) X.A (call (.type "set") [.ref l]) Q E s := by
  cases t with
  | false =>
    have hq : SqL X.K H l (ns.map V.int) := hq
    obtain ⟨its, r, pl, hz⟩ := I.list hq
    have hlen : its.toArray.size = ns.length := by rw [List.size_toArray, ← r.length, List.length_map]
    refine PySem.call_set_list (I.ok.hd hc) pl.isList (by simpa using L2.intsAre_of r) (by rw [hlen]; unfold scanBound; omega) fun h' tk hS hk => ?_
    rw [firstMet_dist hlen] at hS
    obtain ⟨o, es, ep, tb, ho, hex, hd, _, _, _, hf, hn⟩ := hS
    exact k h' tk o es ep tb ho hex hd hf hn (I.kept fun b o e => hk b o (Heap.lt_size e) e)
  | true =>
    have hq : SqT X.K H l (ns.map V.int) := hq
    obtain ⟨its, r, pl, hz⟩ := I.tuple hq
    refine call_set_tupI ns (I.ok.hd hc) pl (by simpa using L2.intsAre_of r) (by unfold scanBound; omega) fun h' tk c hS _ hk => ?_
    obtain ⟨o, es, ep, tb, ho, hex, hd, _, nd, hm, _, hf, _⟩ := hS
    refine k h' tk o es ep tb ho hex hd hf ?_ (I.kept hk)
    have pm : (es.toList.map L2.keyOf).Perm (distL ns) := (List.perm_ext_iff_of_nodup nd (dist_nodup ns)).mpr fun z => (hm z).symm.trans (by rw [mem_dist]; simp)
    have := pm.length_eq
    rw [List.length_map, Array.length_toList] at this
    exact this
theorem numsOf_some {d : PyData} {ns : List Int} (h : numsOf d = some ns) {G H : Hp} {x : V} {K : PySem.W.Frag} (hd : Dw K G H x d) (sm : Same G H) : ∃ t l, x = .ref l ∧ SqA K t H l (ns.map V.int) := by
  unfold numsOf at h
  obtain ⟨ds, h1, h2⟩ := Option.bind_eq_some_iff.mp h
  have e := intsOf_eq h2
  cases d <;> try cases h1
  · obtain ⟨l, vs, rfl, g1, g2⟩ := hd.lst sm
    subst e
    rw [g2.ints] at g1
    exact ⟨false, l, rfl, g1.sqL⟩
  · obtain ⟨l, vs, rfl, g1, g2⟩ := hd.tup sm
    subst e
    rw [g2.ints] at g1
    exact ⟨true, l, rfl, g1.sqT⟩
theorem pe_lenSetA {ta : TE} (hc : X.calm = true) (hg : Gl X "len") (hm : X.mg "len" = none) (hg2 : Gl X "set") (hm2 : X.mg "set" = none) (ha : PE X a ta) (na : starEach [a] X.env = (false, eval a X.env) :: starEach [] X.env) (n0 : (backTo q (starEach [] X.env)).any (·.1) = false)
    (nb : starEach [.Call (.Name "set" p2) [a] [] q] X.env = (false, eval (.Call (.Name "set" p2) [a] [] q) X.env) :: starEach [] X.env) (n1 : (backTo pos (starEach [] X.env)).any (·.1) = false) :
    PE X (.Call (.Name "len" p) [.Call (.Name "set" p2) [a] [] q] [] pos) (fun σ H Q => ta σ H fun x H1 => ∃ t l ns, x = .ref l ∧ SqA X.K t H1 l (ns.map V.int) ∧ ns.length ≤ 1000 ∧ Q (.int (distL ns).length) H1) := by
  refine ⟨fun pins s σ H Q I h => wpAny_Call_Name_kw (ld_blt I hg hm (u := .builtin "len") (by decide +kernel) ?_)⟩
  refine PyProof.Rows.callWith_builtin1 (PyProof.Rows.args_cons ?_ nb) nb n1
  refine wpAny_Call_Name_kw (ld_blt I hg2 hm2 (u := .type "set") (by decide +kernel) ?_)
  refine PyProof.Rows.callWith_type1 (PyProof.Rows.args_cons (thn (ha.run pins s σ H _ I h) fun v s1 ⟨x, H1, I1, r1, t, l, ns, ex, hq, hl, q1⟩ => PyProof.Rows.args_nil ?_) na) na n0
  subst ex
  cases r1
  refine set_made hc I1 hq hl fun h' tk o es ep tb ho hex hd hf hn I2 => PyProof.Rows.args_nil ?_
  have := (dist_nodup ns)
  refine call_len_set ho hex hd hf ?_ ⟨.int (distL ns).length, H1, I2.tok _, ⟨_, by rw [hn]⟩, q1⟩
  have le : (distL ns).length ≤ 1000 := by
    rw [← firstMet_dist rfl]
    exact Nat.le_trans (PyProof.Rows.firstMet_length_le _ _) hl
  rw [hn]
  omega
theorem sv_lenSet (hc : X.calm = true) (hg : Gl X "len") (hm : X.mg "len" = none) (hg2 : Gl X "set") (hm2 : X.mg "set" = none) (ha : SO X W a ma) (na : starEach [a] X.env = (false, eval a X.env) :: starEach [] X.env) (n0 : (backTo q (starEach [] X.env)).any (·.1) = false)
    (nb : starEach [.Call (.Name "set" p2) [a] [] q] X.env = (false, eval (.Call (.Name "set" p2) [a] [] q) X.env) :: starEach [] X.env) (n1 : (backTo pos (starEach [] X.env)).any (·.1) = false) :
    SV X W (.Call (.Name "len" p) [.Call (.Name "set" p2) [a] [] q] [] pos) (op1 lenSetD ma) :=
  weakE (pe_lenSetA hc hg hm hg2 hm2 ha na n0 nb n1) fun σ H Q ⟨en, G, F, B, s, k⟩ => by
    refine ⟨en, G, F, B, s, (ok_bind.mp k).imp (fun ox e1 k1 x H1 G1 s1 m1 r1 => ?_) fun _ _ w => w⟩
    obtain ⟨dx, hx, k3⟩ := s1.der r1 (ok_bind.mp k1)
    obtain ⟨res, hr, k5⟩ := ok_liftO.mp k3
    unfold lenSetD at hr
    obtain ⟨ns, h1, h2⟩ := Option.bind_eq_some_iff.mp hr
    split at h2
    · rename_i z
      cases h2
      obtain ⟨t, l, rfl, hq⟩ := numsOf_some h1 hx s1.sub
      exact ⟨t, l, ns, rfl, hq, z, k5 _ H1 G1 s1 m1 (.int _)⟩
    · cases h2
theorem pe_sortSetA {ta : TE} (hc : X.calm = true) (hg : Gl X "sorted") (hm : X.mg "sorted" = none) (hg2 : Gl X "set") (hm2 : X.mg "set" = none) (ha : PE X a ta) (na : starEach [a] X.env = (false, eval a X.env) :: starEach [] X.env) (n0 : (backTo q (starEach [] X.env)).any (·.1) = false)
    (nb : starEach [.Call (.Name "set" p2) [a] [] q] X.env = (false, eval (.Call (.Name "set" p2) [a] [] q) X.env) :: starEach [] X.env) (n1 : (backTo pos (starEach [] X.env)).any (·.1) = false) :
    PE X (.Call (.Name "sorted" p) [.Call (.Name "set" p2) [a] [] q] [] pos) (fun σ H Q => ta σ H fun x H1 => ∃ l ns, x = .ref l ∧ SqT X.K H1 l (ns.map V.int) ∧ ns.length ≤ 60 ∧ ∀ l', H1 l' = none → Q (.ref l') (upd H1 l' (.lst ((sortN (distL ns)).map V.int)))) := by
  refine ⟨fun pins s σ H Q I h => wpAny_Call_Name_kw (ld_blt I hg hm (u := .builtin "sorted") (by decide +kernel) ?_)⟩
  refine PyProof.Rows.callWith_builtin1 (PyProof.Rows.args_cons ?_ nb) nb n1
  refine wpAny_Call_Name_kw (ld_blt I hg2 hm2 (u := .type "set") (by decide +kernel) ?_)
  refine PyProof.Rows.callWith_type1 (PyProof.Rows.args_cons (thn (ha.run pins s σ H _ I h) fun v s1 ⟨x, H1, I1, r1, l, ns, ex, hq, hl, q1⟩ => PyProof.Rows.args_nil ?_) na) na n0
  subst ex
  cases r1
  obtain ⟨its, r, pl, hz⟩ := I1.tuple hq
  refine call_set_tupI ns (I1.ok.hd hc) pl (by simpa using L2.intsAre_of r) (by unfold scanBound; omega) fun h' tk c hS hcn hk => PyProof.Rows.args_nil ?_
  have I2 : Inv X pins σ H1 { s1 with heap := h', toks := tk } := I1.kept hk
  refine L2.sorted_set hS (I2.ok.hd hc) (by omega) fun s3 l' out c' ns' kp gs os new at' wh lt mem cnt => ?_
  have e : ns' = sortN (distL ns) := by
    refine lt_ext lt (sortN_lt (dist_nodup ns)) fun z => ?_
    unfold sortN
    rw [mem z, (List.mergeSort_perm _ _).mem_iff, mem_dist]
    simp
  subst e
  have fits : ((sortN (distL ns)).map V.int).length ≤ sizeLine := by
    rw [List.length_map, cnt]
    exact Nat.le_trans hcn (Nat.le_trans hl (by decide))
  have free : H1 l' = none := I2.hok.fresh new
  have fine : ObjOk X.prog X.w (upd H1 l' (.lst ((sortN (distL ns)).map V.int))) s3.heap l' (.lst ((sortN (distL ns)).map V.int)) := ⟨fits, out.toList, c', vals_of_ints wh, at'⟩
  have lay := I2.call (ch := []) (d' := s3.drawn) (g' := s3.gens) (t' := s3.toks) (Un.laid kp new free) (I2.hok.laid kp new fine) (by rw [gs]; exact I2.bare) (fun _ z => nomatch z)
  have es : s3 = { ({ s1 with heap := h', toks := tk } : Shared) with heap := s3.heap, gens := s3.gens, drawn := s3.drawn, toks := s3.toks } := by
    obtain ⟨h3, g3, d3, t3, o3⟩ := s3
    have os : o3 = s1.os := os
    subst os
    rfl
  rw [es]
  exact ⟨.ref l', _, lay, rfl, q1 l' free⟩
theorem sv_sortSet (hc : X.calm = true) (hg : Gl X "sorted") (hm : X.mg "sorted" = none) (hg2 : Gl X "set") (hm2 : X.mg "set" = none) (ha : SO X W a ma) (na : starEach [a] X.env = (false, eval a X.env) :: starEach [] X.env) (n0 : (backTo q (starEach [] X.env)).any (·.1) = false)
    (nb : starEach [.Call (.Name "set" p2) [a] [] q] X.env = (false, eval (.Call (.Name "set" p2) [a] [] q) X.env) :: starEach [] X.env) (n1 : (backTo pos (starEach [] X.env)).any (·.1) = false) :
    SV X W (.Call (.Name "sorted" p) [.Call (.Name "set" p2) [a] [] q] [] pos) (op1 sortSetD ma) :=
  weakE (pe_sortSetA hc hg hm hg2 hm2 ha na n0 nb n1) fun σ H Q ⟨en, G, F, B, s, k⟩ => by
    refine ⟨en, G, F, B, s, (ok_bind.mp k).imp (fun ox e1 k1 x H1 G1 s1 m1 r1 => ?_) fun _ _ w => w⟩
    obtain ⟨dx, hx, k3⟩ := s1.der r1 (ok_bind.mp k1)
    obtain ⟨res, hr, k5⟩ := ok_liftO.mp k3
    have po : Post X.K F B σ e1 G1 res Q := fun v H' G' s' m' rr => k5 v H' G' s' (m1.trans m') rr
    unfold sortSetD at hr
    split at hr
    · obtain ⟨ns, h1, h2⟩ := Option.bind_eq_some_iff.mp hr
      split at h2
      · rename_i z
        cases h2
        have e := intsOf_eq h1
        subst e
        obtain ⟨l, vs, rfl, g1, g2⟩ := hx.tup s1.sub
        rw [g2.ints] at g1
        exact ⟨l, ns, rfl, g1.sqT, z, fun l' hl' => po.lst s1 (rps_ints _) hl'⟩
      · cases h2
    · cases hr
end
/-! ### t[::-1] -/
def revD : PyData → Option RV
  | .tuple ds => lit (.tuple ds.reverse)
  | _ => none
end Ev

set_option Elab.async false
set_option linter.all false
set_option maxRecDepth 100000
set_option maxHeartbeats 4000000
/-! EvR: a tuple or a list turned round. -/
namespace Ev
open PySem PySem.Spec PyProof.Rows L2
section
variable {prog : Program} {w : World} {A : Around} {E : Value → Shared → Prop} {s : Shared}
theorem rev_applied {sl : Addr} {vl vu vs : Value} {n : Nat} {Q : Int × Int × Nat → Shared → Prop} (hs : s.heap.IsSliceOf sl vl vu vs) (pl : IsPart vl none) (pu : IsPart vu none) (ps : IsPart vs (some (-1)))
    (h : Q ((n : Int) - 1, -1, n) s) : wpAny (model prog w) A (Builtin.Slice.sliceApplied (.ref sl) (pure (n : Int))) Q E s := by
  obtain ⟨os, hos, hcs, hds⟩ := id hs
  unfold Builtin.Slice.sliceApplied Builtin.Slice.sliceFields
  refine wpAny_bind (wpAny_bind (wpAny_field hos hds (x := vl) rfl (wpAny_bind (wpAny_field hos hds (x := vu) rfl (wpAny_bind (wpAny_field hos hds (x := vs) rfl (wpAny_pure ?_)))))))
  refine wpAny_bind (HT.slicePart_ ps ?_)
  show wpAny _ _ (if ((-1 : Int) == 0) = true then _ else _) _ _ s
  rw [if_neg (by decide)]
  refine wpAny_bind (HT.slicePart_ pl (wpAny_bind (HT.slicePart_ pu (wpAny_bind (wpAny_pure ?_)))))
  have e : Builtin.Slice.sliceAdjust none none (-1) (n : Int) = ((n : Int) - 1, -1) := by simp [Builtin.Slice.sliceAdjust]
  show wpAny _ _ (match Builtin.Slice.sliceAdjust none none (-1) (n : Int) with | (lo, hi) => pure (lo, (-1 : Int), Builtin.Slice.slicePlaces lo hi (-1))) _ _ s
  rw [e]
  have e2 : Builtin.Slice.slicePlaces ((n : Int) - 1) (-1) (-1) = n := by
    unfold Builtin.Slice.slicePlaces
    rw [if_neg (by decide)]
    by_cases z : n = 0
    · subst z; decide
    · rw [if_pos (by omega)]
      simp
  show wpAny _ _ (pure ((n : Int) - 1, (-1 : Int), Builtin.Slice.slicePlaces ((n : Int) - 1) (-1) (-1))) _ _ s
  rw [e2]
  exact wpAny_pure h
theorem fm_map {α β : Type} {f : α → Option β} {g : α → β} : ∀ {l : List α}, (∀ m ∈ l, f m = some (g m)) → l.filterMap f = l.map g
  | [], _ => rfl
  | m :: l, h => by
    rw [List.filterMap_cons, h m List.mem_cons_self, fm_map fun x hx => h x (List.mem_cons_of_mem _ hx)]
    rfl
theorem rev_pick (xs : Array Value) : ((List.range xs.size).filterMap fun (m : Nat) => xs[((xs.size : Int) - 1 + (m : Int) * -1).toNat]?).toArray = xs.toList.reverse.toArray := by
  congr 1
  rw [fm_map (g := fun m => xs.toList.reverse.getD m .none)]
  · refine List.ext_getElem (by simp) fun i h1 h2 => ?_
    rw [List.getElem_map, List.getElem_range, List.getD_eq_getElem?_getD, List.getElem?_eq_getElem h2]
    rfl
  · intro m hm
    have hm := List.mem_range.mp hm
    have e1 : ((xs.size : Int) - 1 + (m : Int) * -1).toNat = xs.size - 1 - m := by omega
    have hl : xs.size - 1 - m < xs.size := by omega
    rw [e1, List.getD_eq_getElem?_getD, List.getElem?_reverse (by simpa using hm)]
    simp [Array.getElem?_eq_getElem hl, hl]
theorem get_rev {t sl : Addr} {items : Array Value} {vl vu vs : Value} {Q : Value → Shared → Prop} (ht : IsTup s.heap t items) (hs : s.heap.IsSliceOf sl vl vu vs) (pl : IsPart vl none) (pu : IsPart vu none) (ps : IsPart vs (some (-1)))
    (h : Q (.ref s.heap.objs.size) { s with heap := s.heap.push { cls := .type "tuple", data := .seq items.toList.reverse.toArray } }) (hz : items.size ≤ sizeLine) : wpAny (model prog w) A (getItem (.ref t) (.ref sl)) Q E s := by
  have fits : sizeOk (.seq items.toList.reverse.toArray) := by
    show items.toList.reverse.toArray.size ≤ sizeLine
    simpa using hz
  obtain ⟨os, hos, hcs, hds⟩ := id hs
  have tsl : s.TypeIs (.ref sl) "slice" := ⟨os, hos, hcs⟩
  unfold getItem
  refine wpAny_holding ?_
  refine wpAny_bind (wpAny_sequenceKey ht.typeIs (by decide) ?_)
  refine wpAny_bind (wpAny_callSpecial?_slot (name := Str.ofString "__getitem__") ht.typeIs slot_tuple_getitem (wpAny_call_entry slot_tuple_getitem ht.typeIs entry_tuple_getitem ?_ (args_tuple_getitem _ _)))
  refine wpAny_bind (m := Builtin.Tuple.tupleItemsOf (.ref t)) (tupleItemsOf_ ht ?_)
  refine wpAny_bind (wpAny_typeOf tsl ?_)
  rw [if_pos (by decide)]
  refine wpAny_bind (rev_applied hs pl pu ps ?_)
  have no : ¬ ((((items.size : Int) - 1) == 0 && (-1 : Int) == 1 && items.size == items.size) = true) := by simp
  show wpAny _ _ (if ((((items.size : Int) - 1) == 0 && (-1 : Int) == 1 && items.size == items.size) = true) then _ else _) _ _ s
  rw [if_neg no, rev_pick]
  first
    | exact wpAny_bind (m := Builtin.Tuple.tupleExact _) (wpAny_newObj_type (wpAny_pure ⟨_, rfl, wpAny_pure h⟩) fits)
    | exact wpAny_bind (wpAny_bind (m := Builtin.Tuple.tupleExact _) (wpAny_newObj_type (wpAny_pure (wpAny_pure ⟨_, rfl, wpAny_pure h⟩)) fits))
end
section
variable {X : Cx} {e : Expr} {te : TE} {kk : Nat} {p1 p2 p3 pos : Pos}
theorem pe_revT (he : PE X e te) (ht : ∀ o r, letTemporaryGo e o r = pure ()) : PE X (.Subscript e (.Slice none none (some (.UnaryOp .USub (.Constant (.int 1) kk p1) p2)) p3) pos) (fun σ H Q => te σ H fun x H1 => ∃ a xs, x = .ref a ∧ SqT X.K H1 a xs ∧ NewT xs.reverse H1 Q) := by
  refine ⟨fun pins s σ H Q I h => ?_⟩
  refine Subscript_ (thn (he.run pins s σ H _ I h) fun v s1 ⟨x, H1, I1, r1, a, xs, ex, hx, q⟩ => ?_)
  subst ex
  cases r1
  have step : PO X (some (.UnaryOp .USub (.Constant (.int 1) kk p1) p2)) (tPart (tUn (rU fun i => .int (-i)) (tC (.int 1)))) := po_some (pe_un un_neg pe_int)
  refine wpAny_Slice (thn (po_none.run pins s1 σ H1 (fun o H2 => o = none ∧ H2 = H1) I1 ⟨rfl, rfl⟩) fun vl s2 ⟨l, H2, I2, pl, el, e2⟩ => ?_)
  subst el e2
  refine thn (po_none.run pins s2 σ H2 (fun o H3 => o = none ∧ H3 = H2) I2 ⟨rfl, rfl⟩) fun vu s3 ⟨u, H3, I3, pu, eu, e3⟩ => ?_
  subst eu e3
  refine thn (step.run pins s3 σ H3 (fun o H4 => o = some (-1) ∧ H4 = H3) I3 ⟨1, rfl, -1, rfl, rfl, rfl⟩) fun vs s4 ⟨o, H4, I4, ps, eo, e4⟩ => ?_
  subst eo e4
  have I5 : L2.Inv X pins σ H4 { s4 with heap := s4.heap.push { cls := .type "slice", data := .fields #[vl, vu, vs] } } := I4.kept (t' := s4.toks) fun b ob q => Heap.get?_push_of_some _ q
  obtain ⟨its, r, tp, hz⟩ := I5.tuple hx
  refine tail_any (ops := [.ref a, .ref s4.heap.objs.size]) tp.typeIs slot_tuple_getitem.lookup ?_ (by with_unfolding_all rfl)
  refine get_rev tp (Heap.IsSliceOf.new _ vl vu vs) pl pu ps ?_ (by rw [List.size_toArray, ← r.length]; exact hz)
  exact newT (t := s4.toks) I5 (vs := xs.reverse) (us := its.reverse) r.reverse (by rw [List.length_reverse]; exact hz) q
end
end Ev

set_option Elab.async false
set_option linter.all false
set_option maxRecDepth 100000
set_option maxHeartbeats 4000000
/-! EvS: the rules in the form that the printed walks use. -/
namespace Ev
open PySem PySem.Spec L2
def visB (sc : Scope) (x : Str) : Bool := match sc.names.lookup x with
  | some .local => true
  | some .cell => true
  | some .free => true
  | _ => false
theorem vis_of {sc : Scope} {x : Str} (h : visB sc x = true) : Vis sc x := by
  unfold visB at h
  split at h
  · exact .inl (by assumption)
  · exact .inr (.inl (by assumption))
  · exact .inr (.inr (by assumption))
  · cases h
def blkB (N : List Str) (sc scope : Scope) (own : List (Str × Nat)) : Bool :=
  decide (scope.kind = .function) && (scope.names.all (fun y => decide (scope.names.lookup y.1 = some y.2)) && (own.all (fun p => decide (N[p.2]? = some p.1)) &&
    (scope.names.all (fun y => !decide (y.2 = .free) || (decide (sc.names.lookup y.1 = some .cell) || decide (sc.names.lookup y.1 = some .free))) &&
      scope.names.all (fun y => !(decide (y.2 = .local) || decide (y.2 = .cell)) || (decide (y.1 ∈ own.map (·.1)) || !decide (y.1 ∈ N))))))
theorem blk_of {N : List Str} {sc scope : Scope} {own : List (Str × Nat)} (h : blkB N sc scope own = true) : BlkOk N sc scope own := by
  unfold blkB at h
  simp only [Bool.and_eq_true, decide_eq_true_eq, List.all_eq_true, Bool.or_eq_true, Bool.not_eq_true', decide_eq_false_iff_not] at h
  obtain ⟨h1, h2, h3, h4, h5⟩ := h
  refine ⟨h1, h2, h3, fun y hy hf => ?_, fun y hy hf => ?_⟩
  · exact (h4 y hy).resolve_left fun z => z hf
  · rcases h5 y hy with z | z
    · simp only [Bool.or_eq_false_iff, decide_eq_false_iff_not] at z
      exact (hf.elim z.1 z.2).elim
    · exact z
section
variable {X : Cx} {W : WX} {a b c e : Expr} {es : List Expr} {ma mb mc : M OV} {m : M RV} {pos p q : Pos} {x : Str}
theorem nv (i : Nat) (hN : X.N[i]? = some x) (hv : visB X.env.scope x = true) (hd : (x == ("__debug__" : Str)) = false) (hc : (x == ("__classdict__" : Str)) = false) : PE X (.Name x pos) (tVar i) := pe_var hN (vis_of hv) hd hc
theorem sv_v (i : Nat) (hN : X.N[i]? = some x) (hv : visB X.env.scope x = true) (hd : (x == ("__debug__" : Str)) = false) (hc : (x == ("__classdict__" : Str)) = false) : SV X W (.Name x pos) (readV i) := sv_var (nv i hN hv hd hc)
theorem so_v (i : Nat) (hN : X.N[i]? = some x) (hv : visB X.env.scope x = true) (hd : (x == ("__debug__" : Str)) = false) (hc : (x == ("__classdict__" : Str)) = false) : SO X W (.Name x pos) (readO i) := so_var (nv i hN hv hd hc)
theorem sv_int {i : Int} {j} : SV X W (.Constant (.int i) j pos) (pure ⟨.int i, false⟩) := sv_const pe_int fun _ => .int i
theorem sv_str {i : Str} {j} : SV X W (.Constant (.str i) j pos) (pure ⟨.str i, false⟩) := sv_const pe_str fun _ => .str i
theorem sv_bl {i : Bool} {j} : SV X W (.Constant (.bool i) j pos) (pure ⟨.bool i, false⟩) := sv_const pe_bl fun _ => .bl i
theorem sv_non {j} : SV X W (.Constant .none j pos) (pure ⟨.none, false⟩) := sv_const pe_non fun _ => .non
theorem sv_gint {i : Int} (hg : Gl X x) (hm : ∃ t, X.mg x = some (.int i t)) (hd : (x == ("__debug__" : Str)) = false) : SV X W (.Name x pos) (pure ⟨.int i, false⟩) :=
  sv_const (pe_glob (v := .int i) hg hm.choose_spec ⟨_, rfl⟩ hd) fun _ => .int i
/-- a built-in function, by what it does to data -/
structure BI (X : Cx) (id : Str) (s : String) (f : List PyData → Option RV) : Prop where
  ex : ∃ r, CallR X (.builtin s) r ∧ RLok X.K r f
  bt : bootBuiltins id = some (.builtin s)
  n1 : id ≠ "__name__"
  n2 : (id == ("__debug__" : Str)) = false
structure BT (X : Cx) (id : Str) (s : String) (f : List PyData → Option RV) : Prop where
  ex : ∃ r, CallR X (.type s) r ∧ RLok X.K r f
  bt : bootBuiltins id = some (.type s)
  n1 : id ≠ "__name__"
  n2 : (id == ("__debug__" : Str)) = false
def orF (f g : List PyData → Option RV) : List PyData → Option RV := fun ds => match f ds with
  | some r => some r
  | none => g ds
theorem ok_or {K : PySem.W.Frag} {r r' : List V → Hp → VK → Prop} {f g : List PyData → Option RV} (h : RLok K r f) (h' : RLok K r' g) : RLok K (fun xs H Q => r xs H Q ∨ r' xs H Q) (orF f g) := by
  intro F B σ H e G xs ds res Q s hd hr k
  unfold orF at hr
  split at hr
  · rename_i r0 q0
    cases hr
    exact .inl (h s hd q0 k)
  · exact .inr (h' s hd hr k)
theorem callR_or {v : Value} {r r' : List V → Hp → VK → Prop} (h : CallR X v r) (h' : CallR X v r') : CallR X v (fun xs H Q => r xs H Q ∨ r' xs H Q) := by
  intro pins s σ H xs us Q I rr q
  rcases q with q | q
  · exact h pins s σ H xs us Q I rr q
  · exact h' pins s σ H xs us Q I rr q
theorem bi_len : BI X "len" "len" lenF := ⟨⟨_, callR_or call_len_seq call_len_str, ok_len⟩, by decide +kernel, by decide, by decide⟩
theorem bi_abs : BI X "abs" "abs" absF := ⟨⟨_, call_abs, ok_abs⟩, by decide +kernel, by decide, by decide⟩
theorem bi_max (hc : X.calm = true) : BI X "max" "max" maxF := ⟨⟨_, callR_or (call_max2 hc) (cr_max hc), ok_max⟩, by decide +kernel, by decide, by decide⟩
def minG := orF minF minA
theorem bi_min (hc : X.calm = true) (hu : X.A.units + 100 < cLine) : BI X "min" "min" minG := ⟨⟨_, callR_or (callR_or (call_min2 hc) (cr_min hc)) (cr_minA hc hu), ok_or ok_min ok_minA⟩, by decide +kernel, by decide, by decide⟩
theorem bi_any (hc : X.calm = true) : BI X "any" "any" anyF := ⟨⟨_, cr_any hc, ok_any⟩, by decide +kernel, by decide, by decide⟩
theorem bi_all (hc : X.calm = true) : BI X "all" "all" allF := ⟨⟨_, cr_all hc, ok_all⟩, by decide +kernel, by decide, by decide⟩
theorem bi_sum (hc : X.calm = true) : BI X "sum" "sum" sumF := ⟨⟨_, cr_sum hc, ok_sum⟩, by decide +kernel, by decide, by decide⟩
theorem bi_repr (gd : X.A.guards = some []) (hu : X.A.units + 100 < cLine) : BI X "repr" "repr" reprF := ⟨⟨_, cr_repr gd hu, ok_repr⟩, by decide +kernel, by decide, by decide⟩
theorem bi_sorted (hu : X.A.units + 100 < cLine) : BI X "sorted" "sorted" sortedF := ⟨⟨_, cr_sortA hu, ok_sorted⟩, by decide +kernel, by decide, by decide⟩
theorem bt_tuple : BT X "tuple" "tuple" tupleF := ⟨⟨_, cr_tupleZ, ok_tuple⟩, by decide +kernel, by decide, by decide⟩
theorem bt_list : BT X "list" "list" listF := ⟨⟨_, call_list_of, ok_list⟩, by decide +kernel, by decide, by decide⟩
theorem bt_int : BT X "int" "int" intF := ⟨⟨_, call_int1, ok_int⟩, by decide +kernel, by decide, by decide⟩
@[simp] def op1L (f : List PyData → Option RV) (ma : M OV) : M RV := opL f (do let o ← ma; let os ← (pure [] : M (List OV)); pure (o :: os))
@[simp] def op2L (f : List PyData → Option RV) (ma mb : M OV) : M RV := opL f (do let o ← ma; let os ← (do let o ← mb; let os ← (pure [] : M (List OV)); pure (o :: os)); pure (o :: os))
theorem sv_b1 {s : String} {f : List PyData → Option RV} (B : BI X x s f) (hg : Gl X x) (hm : X.mg x = none) (ha : SO X W a ma) (h1 : starEach [a] X.env = (false, eval a X.env) :: starEach [] X.env) (hp : (backTo pos (starEach [] X.env)).any (·.1) = false) : SV X W (.Call (.Name x p) [a] [] pos) (op1L f ma) := by
  obtain ⟨r, h, k⟩ := B.ex
  exact sv_callB k h hg hm B.bt (sa_cons ha sa_nil h1) B.n1 B.n2 h1 hp
theorem sv_b2 {s : String} {f : List PyData → Option RV} (B : BI X x s f) (hg : Gl X x) (hm : X.mg x = none) (ha : SO X W a ma) (hb : SO X W b mb) (h1 : starEach [a, b] X.env = (false, eval a X.env) :: starEach [b] X.env) (h2 : starEach [b] X.env = (false, eval b X.env) :: starEach [] X.env) (hp : (backTo pos (starEach [b] X.env)).any (·.1) = false) :
    SV X W (.Call (.Name x p) [a, b] [] pos) (op2L f ma mb) := by
  obtain ⟨r, h, k⟩ := B.ex
  exact sv_callB k h hg hm B.bt (sa_cons ha (sa_cons hb sa_nil h2) h1) B.n1 B.n2 h1 hp
theorem sv_t1 {s : String} {f : List PyData → Option RV} (B : BT X x s f) (hg : Gl X x) (hm : X.mg x = none) (ha : SO X W a ma) (h1 : starEach [a] X.env = (false, eval a X.env) :: starEach [] X.env) (hp : (backTo pos (starEach [] X.env)).any (·.1) = false) : SV X W (.Call (.Name x p) [a] [] pos) (op1L f ma) := by
  obtain ⟨r, h, k⟩ := B.ex
  exact sv_callT k h hg hm B.bt (sa_cons ha sa_nil h1) B.n1 B.n2 h1 hp
/-- isinstance -/
structure IT (X : Cx) (id : Str) (s : String) : Prop where
  ex : ∃ f, CallR X (.builtin "isinstance") (rIsA X.K s f) ∧ ∀ d, isiF s d = some (f d)
  bt : bootBuiltins id = some (.type s)
  n1 : id ≠ "__name__"
  n2 : (id == ("__debug__" : Str)) = false
theorem it_int : IT X "int" "int" := ⟨⟨_, cr_isA (fun r h => PySem.W.isinstance_int_data r h), fun _ => rfl⟩, by decide +kernel, by decide, by decide⟩
theorem it_bool : IT X "bool" "bool" := ⟨⟨_, cr_isA (fun r h => PySem.W.isinstance_bool_data r h), fun _ => rfl⟩, by decide +kernel, by decide, by decide⟩
theorem it_str : IT X "str" "str" := ⟨⟨_, cr_isA (fun r h => PySem.W.isinstance_str_data r h), fun _ => rfl⟩, by decide +kernel, by decide, by decide⟩
theorem it_tuple : IT X "tuple" "tuple" := ⟨⟨_, cr_isA (fun r h => PySem.W.isinstance_tuple_data r h), fun _ => rfl⟩, by decide +kernel, by decide, by decide⟩
theorem it_list : IT X "list" "list" := ⟨⟨_, cr_isA (fun r h => PySem.W.isinstance_list_data r h), fun _ => rfl⟩, by decide +kernel, by decide, by decide⟩
theorem sv_is {id : Str} {s : String} (T : IT X id s) (hg : Gl X "isinstance") (hm : X.mg "isinstance" = none) (hg2 : Gl X id) (hm2 : X.mg id = none) (ha : SO X W a ma) (h1 : starEach [a, .Name id q] X.env = (false, eval a X.env) :: starEach [.Name id q] X.env) (h2 : starEach [.Name id q] X.env = (false, eval (.Name id q) X.env) :: starEach [] X.env)
    (hp : (backTo pos (starEach [.Name id q] X.env)).any (·.1) = false) : SV X W (.Call (.Name "isinstance" p) [a, .Name id q] [] pos) (op1 (isiD s) ma) := by
  obtain ⟨f, h, k⟩ := T.ex
  exact sv_isi h k hg hm ha (pe_bltn hg2 hm2 T.bt rfl T.n1 T.n2) h1 h2 hp
theorem rp_app1 {K : PySem.W.Frag} {G : Hp} {vs : List V} {ds : List PyData} {v : V} {d : PyData} (h : RpAll K G vs ds) (r : Rp K G v d) : RpAll K G (vs ++ [v]) (ds ++ [d]) := h.app (.cons r .nil)
theorem rp_rev {K : PySem.W.Frag} {G : Hp} : ∀ {vs : List V} {ds : List PyData}, RpAll K G vs ds → RpAll K G vs.reverse ds.reverse
  | _, _, .nil => .nil
  | _, _, .cons h t => by
    rw [List.reverse_cons, List.reverse_cons]
    exact rp_app1 (rp_rev t) h
theorem sv_rev {kk : Nat} {p1 p2 p3 : Pos} (ha : SO X W a ma) (ht : ∀ o r, letTemporaryGo a o r = pure ()) : SV X W (.Subscript a (.Slice none none (some (.UnaryOp .USub (.Constant (.int 1) kk p1) p2)) p3) pos) (op1 revD ma) :=
  weakE (pe_revT ha ht) fun σ H Q ⟨en, G, F, B, s, k⟩ => by
    refine ⟨en, G, F, B, s, (ok_bind.mp k).imp (fun ox e1 k1 x H1 G1 s1 m1 r1 => ?_) fun _ _ w => w⟩
    obtain ⟨dx, hx, k3⟩ := s1.der r1 (ok_bind.mp k1)
    obtain ⟨res, hr, k5⟩ := ok_liftO.mp k3
    have po : Post X.K F B σ e1 G1 res Q := fun v H' G' s' m' rr => k5 v H' G' s' (m1.trans m') rr
    unfold revD at hr
    split at hr
    · cases hr
      obtain ⟨l, vs, rfl, g1, g2⟩ := hx.tup s1.sub
      exact ⟨l, vs, rfl, g1.sqT, po.tup s1 (rp_rev g2)⟩
    · cases hr
end
/-! ### given away at once -/
@[simp] def frzM (m : M RV) : M RV := do
  let r ← m
  pure ⟨r.d, false⟩
theorem t_frz {X : Cx} {W : WX} {m : M RV} {σ : St} {H : Hp} {Q : VK} (q : tV X.K X.mg W (frzM m) σ H Q) : tV X.K X.mg W m σ H Q := by
  obtain ⟨e, G, F, B, s, k⟩ := q
  refine ⟨e, G, F, B, s, (ok_bind.mp k).imp (fun r e1 k1 v H1 G1 s1 m1 rr => ?_) fun _ _ w => w⟩
  obtain ⟨G2, s2, m2, r2⟩ := rr.freeze s1
  exact k1 v H1 G2 s2 (m1.trans m2) r2
theorem sv_frz {X : Cx} {W : WX} {e : Expr} {m : M RV} (h : SV X W e m) : SV X W e (frzM m) := weakE h fun _ _ _ q => t_frz q
/-! ### the same with the places told first -/
section
variable {X : Cx} {W : WX} {elt tg iter c e e1 e2 : Expr} {scope : Scope} {pos spos : Pos} {mi : M (List PyData)} {bt : PyData → M Unit} {mc : M Bool} {me m n : M RV} {ifs : List Expr} {y x : Str} {py px pt pos' : Pos} {kt k2 : Nat} {pt2 : Pos}
theorem g_lc (pr : Bool) (sl : List Nat) (own : List (Str × Nat)) (hsl : ∀ i ∈ sl, i ∈ own.map (·.2)) (hc : X.calm = true) (hN : X.N.Nodup) (hi : SI X W pr tg iter mi) (ok : blkB X.N X.env.scope scope own = true)
    (hg : ∀ (s : Shared) (H : Hp) (C : Addr) (cl : List (Str × Addr)) (fp : List Addr), SG (X.blk s H scope (compEnvC scope cl C X.env) fp) W0 pr tg sl bt)
    (ht : ∀ (s : Shared) (H : Hp) (C : Addr) (cl : List (Str × Addr)) (fp : List Addr), SPs (X.blk s H scope (compEnvC scope cl C X.env) fp) W0 ifs mc)
    (he : ∀ (s : Shared) (H : Hp) (C : Addr) (cl : List (Str × Addr)) (fp : List Addr), SV (X.blk s H scope (compEnvC scope cl C X.env) fp) W0 elt me) (hs : ∀ x, foldedSetIterable iter X.env x = pure x) :
    SV X W (.ListComp elt [⟨tg, iter, ifs, 0⟩] scope pos) (lcM (own.map (·.2)) mi (turnM bt mc me)) := sv_lc hsl hc hN hi (blk_of ok) hg ht he hs
theorem g_setLc (pr : Bool) (i : Nat) (sl : List Nat) (own : List (Str × Nat)) (hsl : ∀ i ∈ sl, i ∈ own.map (·.2)) (hc : X.calm = true) (hN : X.N.Nodup) (hy : X.N[i]? = some y) (hyl : X.env.scope.names.lookup y = some .local)
    (hsw : swapsWith (.ListComp elt [⟨tg, iter, ifs, 0⟩] scope pos) (some (.Name y py)) spos.line X.env = pure true) (hi : SI X W pr tg iter mi) (ok : blkB X.N X.env.scope scope own = true)
    (hg : ∀ (s : Shared) (H : Hp) (C : Addr) (cl : List (Str × Addr)) (fp : List Addr), SG (X.blk s H scope (compEnvC scope cl C X.env) fp) W0 pr tg sl bt)
    (ht : ∀ (s : Shared) (H : Hp) (C : Addr) (cl : List (Str × Addr)) (fp : List Addr), SPs (X.blk s H scope (compEnvC scope cl C X.env) fp) W0 ifs mc)
    (he : ∀ (s : Shared) (H : Hp) (C : Addr) (cl : List (Str × Addr)) (fp : List Addr), SV (X.blk s H scope (compEnvC scope cl C X.env) fp) W0 elt me) (hs : ∀ x, foldedSetIterable iter X.env x = pure x) :
    SS X W (.Assign [.Name y py] (.ListComp elt [⟨tg, iter, ifs, 0⟩] scope pos) spos) (setM i (lcM (own.map (·.2)) mi (turnM bt mc me))) := ss_setLc hsl hc hN hy hyl hsw hi (blk_of ok) hg ht he hs
theorem g_for (pr : Bool) (sl : List Nat) {body : List Stmt} {mb : M Fl} (hp : PassesOwn (model X.prog X.w) X.A X.env X.xe) (hc : X.calm = true) (hi : SI X W pr tg iter mi) (hg : SG X W pr tg sl bt) (hb : SSs X W body mb) (hs : ∀ x, foldedSetIterable iter X.env x = pure x) :
    SS X W (.For tg iter body [] pos) (forM mi (bodyM bt mb)) := ss_for hp hc hi hg hb hs
theorem g_bind (sl : List Nat) (h : SV X W e m) (hg : SG X W false tg sl bt) (hs : swapsWithSole [tg] e pos.line X.env = pure false) (hw : swappedStores [tg] e X.env = pure none) (h1 : (assignEach [tg] X.env).map (·.2) = [assign tg X.env]) :
    SS X W (.Assign [tg] e pos) (bindM m bt) := ss_bind h hg hs hw h1
theorem g_pt {m : M Bool} (h : SW X W e m) : SB X W e m := h.pt
theorem g_app {o : Expr} {apos cpos : Pos} (i : Nat) (ho : PE X o (tVar i)) (h : SV X W e m) (k : MOk X o "append" e [] apos cpos) (hs : swapsWith (.Call (.Attribute o "append" apos) [e] [] cpos) none pos.line X.env = pure false) : SS X W (.Expr (.Call (.Attribute o "append" apos) [e] [] cpos) pos) (appM i m) := ss_app PySem.F.plainAttrs_list PySem.F.slot_list_append PySem.F.type_list_append ho h k hs
theorem g_ext {o : Expr} {apos cpos : Pos} (i : Nat) (ho : PE X o (tVar i)) (h : SV X W e m) (k : MOk X o "extend" e [] apos cpos) (hs : swapsWith (.Call (.Attribute o "extend" apos) [e] [] cpos) none pos.line X.env = pure false) : SS X W (.Expr (.Call (.Attribute o "extend" apos) [e] [] cpos) pos) (extM i m) := ss_ext PySem.F.plainAttrs_list PySem.F.slot_list_extend PySem.F.type_list_extend ho h k hs
theorem g_setLcF (pr : Bool) (i : Nat) (sl : List Nat) (own : List (Str × Nat)) (hsl : ∀ i ∈ sl, i ∈ own.map (·.2)) (hc : X.calm = true) (hN : X.N.Nodup) (hy : X.N[i]? = some y) (hyl : X.env.scope.names.lookup y = some .local)
    (hsw : swapsWith (.ListComp elt [⟨tg, iter, ifs, 0⟩] scope pos) (some (.Name y py)) spos.line X.env = pure true) (hi : SI X W pr tg iter mi) (ok : blkB X.N X.env.scope scope own = true)
    (hg : ∀ (s : Shared) (H : Hp) (C : Addr) (cl : List (Str × Addr)) (fp : List Addr), SG (X.blk s H scope (compEnvC scope cl C X.env) fp) W0 pr tg sl bt)
    (ht : ∀ (s : Shared) (H : Hp) (C : Addr) (cl : List (Str × Addr)) (fp : List Addr), SPs (X.blk s H scope (compEnvC scope cl C X.env) fp) W0 ifs mc)
    (he : ∀ (s : Shared) (H : Hp) (C : Addr) (cl : List (Str × Addr)) (fp : List Addr), SV (X.blk s H scope (compEnvC scope cl C X.env) fp) W0 elt me) (hs : ∀ x, foldedSetIterable iter X.env x = pure x) :
    SS X W (.Assign [.Name y py] (.ListComp elt [⟨tg, iter, ifs, 0⟩] scope pos) spos) (setM i (frzM (lcM (own.map (·.2)) mi (turnM bt mc me)))) := weakS (ps_setLc (wi := tI X.K X.mg W pr mi) (g := tG X.K X.mg W0 pr sl bt) (tt := tBo X.K X.mg W0 mc) (te := tV X.K X.mg W0 me) hc hN hy hyl hsw hi (blk_of ok) hg ht he hs) fun _ _ _ q => t_set (fun _ _ _ q => t_lc hsl (t_frz q)) q
theorem g_set (i : Nat) (hN : X.N.Nodup) (hi : X.N[i]? = some x) (hx : Loc X.env.scope x) (h : SV X W e m) (hs : swapsWith e (some (.Name x pos')) pos.line X.env = pure false) (hf : X.fn x = true ∨ X.env.scope.names.lookup x = some .local) :
    SS X W (.Assign [.Name x pos'] e pos) (setM i m) := ss_set hN hi hx h hs hf
theorem g_par (i j : Nat) (hc : X.calm = true) (hN : X.N.Nodup) (hi : X.N[i]? = some x) (hj : X.N[j]? = some y) (hij : i ≠ j)
    (hx : X.env.scope.names.lookup x = some .local) (hy : X.env.scope.names.lookup y = some .local) (h1 : SV X W e1 m) (h2 : SV X W e2 n) (s1 : starEach [e1, e2] X.env = (false, eval e1 X.env) :: starEach [e2] X.env) (s2 : starEach [e2] X.env = (false, eval e2 X.env) :: starEach [] X.env)
    (hw : swappedStores [.Tuple [.Name x px, .Name y py] kt pt] (.Tuple [e1, e2] k2 pt2) X.env = pure (some [x, y])) (hs : swapsWithSole [.Tuple [.Name x px, .Name y py] kt pt] (.Tuple [e1, e2] k2 pt2) pos.line X.env = pure false) :
    SS X W (.Assign [.Tuple [.Name x px, .Name y py] kt pt] (.Tuple [e1, e2] k2 pt2) pos) (parM i j m n) := ss_par hc hN hi hj hij hx hy h1 h2 s1 s2 hw hs
end
/-! ### defs by name -/
/-- a def that may be called by its name; kb: its bindings by keywords -/
structure Cal (P : Program) (w : World) (K : PySem.W.Frag) (mg : Str → Option Value) (k : Nat) (x : Str) (ps N : List Str) (kb : List (List Str × List Nat)) (m : M Fl) : Prop where
  ex : ∃ f fd, (∀ base, FnM P w K mg base k f fd ps N m) ∧ mg x = some (.ref f) ∧ PySem.W.keepIn K (.ref f) = true ∧ Binds K fd ps [] ∧ ∀ p ∈ kb, KBinds K fd ps p.1 (mixK p.2) (mixK p.2)
section
variable {X : Cx} {W : WX} {a b c e : Expr} {es : List Expr} {pos p : Pos} {x : Str} {k j i : Nat} {ps N : List Str} {kb : List (List Str × List Nat)} {m : M Fl} {ms : M (List PyData)}
theorem sv_c (C : Cal X.prog X.w X.K X.mg k x ps N kb m) (room : Room j X.A) (hk : k ≤ j) (gd : X.A.guards = some []) (hg : Gl X x) (ha : SVs X W (e :: es) ms) (hdb : (x == ("__debug__" : Str)) = false)
    (he : starEach (e :: es) X.env = (false, eval e X.env) :: starEach es X.env) (hpl : (backTo pos (starEach es X.env)).any (·.1) = false) : SV X W (.Call (.Name x p) (e :: es) [] pos) (callM N.length ps.length m ms) := by
  obtain ⟨f, fd, F, hm, kp, bi, _⟩ := C.ex
  exact sv_call (F X.base) (room.mono hk) gd hg hm kp bi ha hdb he hpl
theorem sv_cP (C : Cal X.prog X.w X.K X.mg k x ps N kb m) (room : Room j X.A) (hk : k ≤ j) (gd : X.A.guards = some []) (hg : Gl X x) (h0 : PE X e (tVar i)) (ha : SVs X W es ms) (hdb : (x == ("__debug__" : Str)) = false)
    (he : starEach (e :: es) X.env = (false, eval e X.env) :: starEach es X.env) (hpl : (backTo pos (starEach es X.env)).any (·.1) = false) : SV X W (.Call (.Name x p) (e :: es) [] pos) (callPM i N.length ps.length m ms) := by
  obtain ⟨f, fd, F, hm, kp, bi, _⟩ := C.ex
  exact sv_callP (F X.base) (room.mono hk) gd hg hm kp bi h0 ha hdb he hpl
theorem sv_cK {kws : List Keyword} (ks : List Str) (ix : List Nat) (C : Cal X.prog X.w X.K X.mg k x ps N kb m) (hkb : (ks, ix) ∈ kb) (room : Room j X.A) (hk : k ≤ j) (gd : X.A.guards = some []) (hg : Gl X x) (ha : SK X W kws ms)
    (hall : (backToKw pos (keywordEach kws X.env)).all (·.1.isSome) = true) (hks : (backToKw pos (keywordEach kws X.env)).filterMap (·.1) = ks) (hdb : (x == ("__debug__" : Str)) = false)
    (hpl : ((backTo pos (starEach [] X.env)).any (·.1) || (backToKw pos (keywordEach kws X.env)).any (·.1.isNone)) = false) : SV X W (.Call (.Name x p) [] kws pos) (callKM ix N.length ps.length m ms) := by
  obtain ⟨f, fd, F, hm, kp, bi, kbs⟩ := C.ex
  exact sv_callK (F X.base) (room.mono hk) gd hg hm kp (kbs _ hkb) ha hall hks hdb hpl
end
section
variable {P : Program} {w : World} {K : PySem.W.Frag} {mg : Str → Option Value} {x qual : Str} {params : Arguments} {body : List Stmt} {sc : Scope} {f : Addr} {fd : FuncData}
theorem FunD.kmix {ps ks : List Str} {ix : List Nat} (D : FunD K x qual params body sc [] [] f fd) (hp : ps.length ≠ 0)
    (h : ∀ (kV doc pm : Value) (an : Option Addr) (cdv ct : Value) (ws : List Value), (mixL ix ws).length = ps.length → bindArgs (PySem.W.fnOf x qual params body sc .none kV doc pm an cdv ct) ⟨[], ks.zip ws⟩ = pure (ps.zip (mixL ix ws))) : KBinds K fd ps ks (mixK ix) (mixK ix) := by
  obtain ⟨oc, od, dV, kV, doc, pm, an, cdv, ct, osl, rfl, lk, hcd, hD, hK⟩ := D.ex
  rcases hD with ⟨_, rfl⟩ | ⟨e, _⟩
  · exact kb_mix hp fun s ws hl => .of_eq (h kV doc pm an cdv ct ws hl)
  · exact absurd rfl e
theorem cal_of {N ps : List Str} {k : Nat} {kb : List (List Str × List Nat)} {m : M Fl} (D : FunD K x qual params body sc [] [] f fd) (hm : mg x = some (.ref f)) (S : FnScope N ps sc)
    (hbd : ∀ (kV doc pm : Value) (an : Option Addr) (cdv ct : Value) (us : List Value), us.length = ps.length → bindArgs (PySem.W.fnOf x qual params body sc .none kV doc pm an cdv ct) ⟨us, []⟩ = pure (ps.zip us))
    (hkb : ∀ p ∈ kb, KBinds K fd ps p.1 (mixK p.2) (mixK p.2))
    (hb : ∀ (base : Heap) (cdv : Value) (A : Around) (out : List Env) (s : Shared) (H : Hp), Room k (A.deeper (PyProof.Rows.envOfC qual sc s.heap.objs.size f cdv)) → (A.deeper (PyProof.Rows.envOfC qual sc s.heap.objs.size f cdv)).guards = some [] →
      SSs (cxOf cx0 P w K mg base N qual sc f cdv A out s H e0).nox W0 body m) : Cal P w K mg (k + 1) x ps N kb m :=
  ⟨f, fd, fun base => FnM.of D S (hb base), hm, D.kp, D.bindsN hbd, hkb⟩
theorem Cal.less {N ps : List Str} {j k : Nat} {kb : List (List Str × List Nat)} {m : M Fl} (C : Cal P w K mg j x ps N kb m) (h : j ≤ k) : Cal P w K mg k x ps N kb m := by
  obtain ⟨f, fd, F, r⟩ := C.ex
  exact ⟨f, fd, fun base => (F base).more h, r⟩
end
end Ev

set_option Elab.async false
set_option linter.all false
set_option maxRecDepth 100000
set_option maxHeartbeats 4000000
/-! EvU: a list of lists of one's own, written item by item. -/
namespace Ev
open PySem PySem.Spec L2
/-- rows that nobody else holds stand in the frame Fr, over F -/
structure Nst (K : PySem.W.Frag) (F Fr G : Hp) (p : Addr) (qs : List Addr) (rows : List (List PyData)) : Prop where
  sub : Same F Fr
  top : Fr p = some (.lst (qs.map V.ref))
  ftop : F p = none
  len : qs.length = rows.length
  ele : ∀ (j : Nat) (q : Addr) (r : List PyData), qs[j]? = some q → rows[j]? = some r → ∃ vs, Fr q = some (.lst vs) ∧ RpAll K G vs r
  fel : ∀ q ∈ qs, F q = none ∧ q ≠ p
  nd : qs.Nodup
theorem Nst.up {K : PySem.W.Frag} {F Fr G G' : Hp} {p : Addr} {qs : List Addr} {rows : List (List PyData)} (n : Nst K F Fr G p qs rows) (s : Same G G') : Nst K F Fr G' p qs rows :=
  ⟨n.sub, n.top, n.ftop, n.len, fun j q r a b => let ⟨vs, h1, h2⟩ := n.ele j q r a b; ⟨vs, h1, h2.up s⟩, n.fel, n.nd⟩
section
variable {K : PySem.W.Frag} {F Fr : Hp} {B : List (Nat × Addr)} {σ : St} {H : Hp} {e : En} {G : Hp}
theorem upd_self {F : Hp} {a : Addr} {o : HO} (h : F a = some o) : upd F a o = F := by
  funext b
  by_cases e : b = a
  · subst e; rw [upd_same, h]
  · rw [upd_ne e]
/-- a smaller frame -/
theorem SR.lessF (s : SR K Fr B σ H e G) (h : Same F Fr) : SR K F B σ H e G := by
  refine ⟨s.len, s.sub, fun a o q => s.frm a o (h _ _ q), fun a o q => s.dsj a o (h _ _ q), s.vls, fun i b ds q => ?_, s.dis⟩
  obtain ⟨p, vs, h1, h2, h3, r⟩ := s.ows i b ds q
  exact ⟨p, vs, h1, h2, h.free h3, r⟩
/-- a list of the frame is no slot's -/
theorem SR.noF (s : SR K Fr B σ H e G) {a : Addr} {o : HO} (h : Fr a = some o) : ∀ (i : Nat) (b : Bool) (es : List PyData), e[i]? = some (.ow b es) → σ[i]? ≠ some (some (.ref a)) := fun i b es q z => by
  obtain ⟨p, vs, h1, h2, h3, r⟩ := s.ows i b es q
  rw [z] at h1
  cases h1
  rw [h] at h3
  cases h3
/-- a result into the frame -/
theorem SR.inF (s : SR K F B σ H e G) {q : Addr} {o : HO} (hq : H q = some o) (hg : G q = none) (no : ∀ (i : Nat) (b : Bool) (es : List PyData), e[i]? = some (.ow b es) → σ[i]? ≠ some (some (.ref q))) : SR K (upd F q o) B σ H e G := infr s hq hg no
/-- the frame's lists given away, one behind another -/
theorem give {F : Hp} : ∀ {qs : List Addr} {rows : List (List PyData)} {G : Hp}, SR K F B σ H e G → qs.length = rows.length → qs.Nodup → (∀ (j : Nat) (q : Addr) (r : List PyData), qs[j]? = some q → rows[j]? = some r → ∃ vs, H q = some (.lst vs) ∧ RpAll K G vs r) → (∀ q ∈ qs, F q = none ∧ G q = none ∧ ∀ (i : Nat) (b : Bool) (es : List PyData), e[i]? = some (.ow b es) → σ[i]? ≠ some (some (.ref q))) →
    ∃ G', SR K F B σ H e G' ∧ Same G G' ∧ RpAll K G' (qs.map V.ref) (rows.map PyData.list) ∧ ∀ a, a ∉ qs → G' a = G a
  | [], [], G, s, _, _, _, _ => ⟨G, s, .refl _, .nil, fun _ _ => rfl⟩
  | [], _ :: _, _, _, h, _, _, _ => by cases h
  | _ :: _, [], _, _, h, _, _, _ => by cases h
  | q :: qs, r :: rows, G, s, hl, nd, he, hf => by
    obtain ⟨nq, nd'⟩ := List.nodup_cons.mp nd
    obtain ⟨vs, h1, h2⟩ := he 0 q r rfl rfl
    obtain ⟨f1, f2, f3⟩ := hf q List.mem_cons_self
    have sm := same_upd (o := HO.lst vs) f2
    have s2 := s.freeze h1 f2 f1 f3
    obtain ⟨G', s', m', rp, out⟩ := give s2 (by simpa using hl) nd' (fun j q' r' a b => by
      obtain ⟨ws, k1, k2⟩ := he (j + 1) q' r' (by simpa using a) (by simpa using b)
      exact ⟨ws, k1, k2.up sm⟩) (fun q' hq' => by
      obtain ⟨g1, g2, g3⟩ := hf q' (List.mem_cons_of_mem _ hq')
      exact ⟨g1, by rw [upd_ne (fun z => nq (by rw [← z]; exact hq'))]; exact g2, g3⟩)
    refine ⟨G', s', sm.trans m', .cons (.lst (.of (m' q _ upd_same)) (h2.up (sm.trans m'))) rp, fun a ha => ?_⟩
    rw [out a fun z => ha (List.mem_cons_of_mem _ z), upd_ne fun z => ha (by rw [z]; exact List.mem_cons_self)]
/-- all rows given away -/
theorem Nst.give {p : Addr} {qs : List Addr} {rows : List (List PyData)} (n : Nst K F Fr G p qs rows) (s : SR K Fr B σ H e G) : ∃ G', SR K F B σ H e G' ∧ Same G G' ∧ Rp K G' (.ref p) (.list (rows.map PyData.list)) := by
  have s0 := s.lessF n.sub
  have gp : G p = none := s.dsj p _ n.top
  have np := s.noF n.top
  obtain ⟨G1, s1, m1, r1, out⟩ := Ev.give (qs := qs) (rows := rows) s0 n.len n.nd (fun j q r a b => by
    obtain ⟨vs, h1, h2⟩ := n.ele j q r a b
    exact ⟨vs, s.frm q _ h1, h2⟩) (fun q hq => by
    obtain ⟨j, hj⟩ := List.mem_iff_getElem?.mp hq
    have hj2 : j < rows.length := by rw [← n.len]; exact lt_of_get hj
    obtain ⟨vs, h1, h2⟩ := n.ele j q rows[j] hj (List.getElem?_eq_getElem hj2)
    exact ⟨(n.fel q hq).1, s.dsj q _ h1, s.noF h1⟩)
  have gp1 : G1 p = none := by rw [out p fun z => (n.fel p z).2 rfl]; exact gp
  have hp : H p = some (.lst (qs.map V.ref)) := s.frm p _ n.top
  exact ⟨_, s1.freeze hp gp1 n.ftop np, m1.trans (same_upd gp1), .lst (.of upd_same) (r1.up (same_upd gp1))⟩
/-- one item of one row -/
theorem Nst.put {p q : Addr} {qs : List Addr} {rows : List (List PyData)} {j k : Nat} {r : List PyData} {vs : List V} {v : V} {d : PyData} (n : Nst K F Fr G p qs rows) (hq : qs[j]? = some q) (hr : rows[j]? = some r) (hv : Fr q = some (.lst vs)) (rv : RpAll K G vs r) (h : Rp K G v d) :
    Nst K F (upd Fr q (.lst (vs.set k v))) G p qs (rows.set j (r.set k d)) := by
  have mq : q ∈ qs := List.mem_of_getElem? hq
  obtain ⟨f1, f2⟩ := n.fel q mq
  refine ⟨fun a o z => ?_, ?_, n.ftop, by simpa using n.len, fun i q' r' a b => ?_, n.fel, n.nd⟩
  · rw [upd_ne (ne_of_none z f1)]; exact n.sub a o z
  · rw [upd_ne (Ne.symm f2)]; exact n.top
  · by_cases hi : i = j
    · subst hi
      rw [hq] at a
      cases a
      rw [List.getElem?_set_self (lt_of_get hr)] at b
      cases b
      exact ⟨_, upd_same, rv.set h k⟩
    · rw [List.getElem?_set_ne (Ne.symm hi)] at b
      obtain ⟨ws, h1, h2⟩ := n.ele i q' r' a b
      have ne : q' ≠ q := fun z => by
        subst z
        have i1 := lt_of_get a
        have i2 := lt_of_get hq
        rw [List.getElem?_eq_getElem i1] at a
        rw [List.getElem?_eq_getElem i2] at hq
        exact hi ((List.getElem_inj n.nd).mp ((Option.some.inj a).trans (Option.some.inj hq).symm))
      exact ⟨ws, by rw [upd_ne ne]; exact h1, h2⟩
end
end Ev

set_option Elab.async false
set_option linter.all false
set_option maxRecDepth 100000
set_option maxHeartbeats 4000000
/-! EvV: rows made by a comprehension, written in loops, given away. -/
namespace Ev
open PySem PySem.Spec L2
def rowOf : PyData → Option (List PyData)
  | .list ds => some ds
  | _ => none
def freshL (r : RV) : Option PyData := match r.fr, r.d with
  | true, .list ds => some (.list ds)
  | _, _ => none
theorem freshL_some {r : RV} {d : PyData} (h : freshL r = some d) : ∃ ds, d = .list ds ∧ r = ⟨.list ds, true⟩ := by
  obtain ⟨rd, fr⟩ := r
  cases fr with
  | false => cases rd <;> cases h
  | true => cases rd <;> cases h; exact ⟨_, rfl, rfl⟩
def turnN (bt : PyData → M Unit) (me : M RV) (d : PyData) : M (Option PyData) := do
  bt d
  let r ← me
  let y ← liftO (freshL r)
  pure (some y)
def rowsOf : List PyData → Option (List (List PyData))
  | [] => some []
  | .list ds :: r => (rowsOf r).map (ds :: ·)
  | _ => none
theorem rowsOf_map : ∀ rows : List (List PyData), rowsOf (rows.map PyData.list) = some rows
  | [] => rfl
  | r :: rows => by simp [rowsOf, rowsOf_map rows]
theorem rowsOf_app {ds : List PyData} {rows : List (List PyData)} {r : List PyData} (h : rowsOf ds = some rows) : rowsOf (ds ++ [.list r]) = some (rows ++ [r]) := by
  induction ds generalizing rows with
  | nil => cases h; rfl
  | cons d ds ih =>
    cases d <;> try cases h
    rename_i xs
    cases q : rowsOf ds with
    | none => simp [rowsOf, q] at h
    | some t =>
      simp [rowsOf, q] at h
      subst h
      simp [rowsOf, ih q]
def isUn : Option Sl → Bool
  | some .un => true
  | _ => false
/-- an evaluation leaves slot i as it is -/
def keepM {α : Type} (i : Nat) (m : M α) : M α := fun e => match m e with
  | some (.ok a e') => if isUn e'[i]? = true then some (.ok a e') else none
  | _ => none
def nnilM (rows : List (List PyData)) : M (List (List PyData)) := pure rows
def nthenM (f g : List (List PyData) → M (List (List PyData))) (rows : List (List PyData)) : M (List (List PyData)) := do
  let r ← f rows
  g r
def nifM (i : Nat) (mc : M Bool) (f g : List (List PyData) → M (List (List PyData))) (rows : List (List PyData)) : M (List (List PyData)) := do
  let t ← keepM i mc
  if t then f rows else g rows
/-- what is wanted with the rows in the frame -/
def tN (K : PySem.W.Frag) (i : Nat) (b : List (List PyData) → M (List (List PyData))) : TS := fun D σ H => ∃ e G F Fr B p qs rows, SR K Fr B σ H e G ∧ Nst K F Fr G p qs rows ∧ σ[i]? = some (some (.ref p)) ∧ e[i]? = some .un ∧
  Ok (b rows) e (fun rows' e' => ∀ σ' H' G' Fr', SR K Fr' B σ' H' e' G' → Same G G' → Nst K F Fr' G' p qs rows' → σ'[i]? = some (some (.ref p)) → e'[i]? = some .un → D.nx σ' H') fun _ _ => False
abbrev NS (X : Cx) (i : Nat) (st : Stmt) (b : List (List PyData) → M (List (List PyData))) : Prop := PS X st (tN X.K i b)
abbrev NSs (X : Cx) (i : Nat) (st : List Stmt) (b : List (List PyData) → M (List (List PyData))) : Prop := PSs X st (tN X.K i b)
section
variable {X : Cx} {i : Nat} {st : Stmt} {sts a b : List Stmt} {c : Expr} {pos : Pos}
theorem ns_nil : NSs X i [] nnilM := weakSs pss_nil fun D σ H ⟨e, G, F, Fr, B, p, qs, rows, s, n, h1, h2, k⟩ => k σ H G Fr s (.refl _) n h1 h2
theorem ns_cons {f g : List (List PyData) → M (List (List PyData))} (h : NS X i st f) (hs : NSs X i sts g) : NSs X i (st :: sts) (nthenM f g) := weakSs (pss_cons h hs) fun D σ H ⟨e, G, F, Fr, B, p, qs, rows, s, n, h1, h2, k⟩ =>
  ⟨e, G, F, Fr, B, p, qs, rows, s, n, h1, h2, (ok_bind.mp k).imp (fun r e1 k1 σ1 H1 G1 Fr1 s1 m1 n1 z1 z2 => ⟨e1, G1, F, Fr1, B, p, qs, r, s1, n1, z1, z2, k1.imp (fun _ _ k2 σ2 H2 G2 Fr2 s2 m2 n2 y1 y2 => k2 σ2 H2 G2 Fr2 s2 (m1.trans m2) n2 y1 y2) fun _ _ w => w⟩) fun _ _ w => w⟩
theorem ok_keep {α : Type} {i : Nat} {m : M α} {e : En} {P : α → En → Prop} {W W' : Exn → En → Prop} (h : Ok (keepM i m) e P W) : Ok m e (fun a e' => e'[i]? = some .un ∧ P a e') W' := by
  unfold Ok keepM at *
  cases q : m e with
  | none => rw [q] at h; exact h
  | some r =>
    rw [q] at h
    cases r with
    | ex x e' => exact h.elim
    | ok a e' =>
      dsimp only at h ⊢
      split at h
      · exact h.elim
      · rename_i a2 e2 z
        split at z
        · rename_i w
          cases z
          cases w3 : e'[i]? with
          | none => rw [w3] at w; cases w
          | some y =>
            rw [w3] at w
            cases y with
            | un => exact ⟨rfl, h⟩
            | vl d => cases w
            | ow b ds => cases w
        · cases z
      · rename_i x e2 z
        split at z <;> cases z
theorem ns_if {mc : M Bool} {f g : List (List PyData) → M (List (List PyData))} (hc : SB X W0 c mc) (ha : NSs X i a f) (hb : NSs X i b g) : NS X i (.If c a b pos) (nifM i mc f g) :=
  weakS (ps_if hc ha hb) fun D σ H ⟨e, G, F, Fr, B, p, qs, rows, s, n, h1, h2, k⟩ => by
    refine ⟨e, G, Fr, B, s, (ok_keep (ok_bind.mp k)).imp (fun t e1 ⟨y, k1⟩ H1 G1 s1 m1 => ?_) fun _ _ w => w⟩
    cases t with
    | true => exact iteT ⟨e1, G1, F, Fr, B, p, qs, rows, s1, n.up m1, h1, y, Ok.imp (show Ok (f rows) e1 _ _ from k1) (fun _ _ k2 σ2 H2 G2 Fr2 s2 m2 n2 y1 y2 => k2 σ2 H2 G2 Fr2 s2 (m1.trans m2) n2 y1 y2) fun _ _ w => w⟩
    | false => exact iteF ⟨e1, G1, F, Fr, B, p, qs, rows, s1, n.up m1, h1, y, Ok.imp (show Ok (g rows) e1 _ _ from k1) (fun _ _ k2 σ2 H2 G2 Fr2 s2 m2 n2 y1 y2 => k2 σ2 H2 G2 Fr2 s2 (m1.trans m2) n2 y1 y2) fun _ _ w => w⟩
/-- rows[j][k] = .. -/
def rowAt (rows : List (List PyData)) (j : PyData) : Option Nat := (intO j).bind (ixN rows.length)
def putAt (rows : List (List PyData)) (x : Nat) (k d : PyData) : Option (List (List PyData)) := (intO k).bind fun k => (rows[x]?).bind fun r => (ixN r.length k).map fun y => rows.set x (r.set y d)
def nsetM (i : Nat) (mv : M RV) (mj mk : M OV) (rows : List (List PyData)) : M (List (List PyData)) := do
  let r ← keepM i mv
  let o ← keepM i mj
  let j ← der o
  let x ← liftO (rowAt rows j)
  let o2 ← keepM i mk
  let k ← der o2
  liftO (putAt rows x k r.d)
theorem ns_set {x ej ek ev : Expr} {mv : M RV} {mj mk : M OV} {p1 p2 : Pos} (hx : PE X x (tVar i)) (hv : SV X W0 ev mv) (hj : SO X W0 ej mj) (hk : SO X W0 ek mk) (hp : PlainIx ej)
    (hs : swapsWithSole [.Subscript (.Subscript x ej p1) ek p2] ev pos.line X.env = pure false) (hw : swappedStores [.Subscript (.Subscript x ej p1) ek p2] ev X.env = pure none)
    (h1 : (assignEach [.Subscript (.Subscript x ej p1) ek p2] X.env).map (·.2) = [assign (.Subscript (.Subscript x ej p1) ek p2) X.env])
    (ha : ∀ v, assign (.Subscript (.Subscript x ej p1) ek p2) X.env v = (do
      let ov ← holding [v] (eval (.Subscript x ej p1) X.env)
      let iv ← holding [v, ov] (eval ek X.env)
      standAt p2
      holding [v, ov, iv] (setItem ov iv v)
      release [v, ov, iv] [])) : NS X i (.Assign [.Subscript (.Subscript x ej p1) ek p2] ev pos) (nsetM i mv mj mk) :=
  weakS (ps_asg hv (pg_sub (pe_ix ix_seq hx hj hp) hk set_list ha) hs hw h1) fun D σ H ⟨e, G, F, Fr, B, p, qs, rows, s, n, z1, z2, k⟩ => by
    refine ⟨e, G, Fr, B, s, (ok_keep (ok_bind.mp k)).imp (fun r e1 ⟨y1, k1⟩ v H1 G1 s1 m1 rr => ?_) fun _ _ w => w⟩
    obtain ⟨G2, s2, m2, r2⟩ := rr.freeze s1
    have m12 := m1.trans m2
    refine ⟨_, z1, e1, G2, Fr, B, s2, (ok_keep (ok_bind.mp k1)).imp (fun oj e2 ⟨y2, k2⟩ vj H3 G3 s3 m3 rj => ?_) fun _ _ w => w⟩
    obtain ⟨dj, hj, k3⟩ := s3.der rj (ok_bind.mp k2)
    obtain ⟨x, hx0, k4⟩ := ok_liftO.mp (ok_bind.mp k3)
    obtain ⟨jj, hjj, hx1⟩ := Option.bind_eq_some_iff.mp hx0
    obtain rfl := intO_some hjj
    cases hj.int
    have xl : x < rows.length := ixN_get hx1
    have xq : x < qs.length := by rw [n.len]; exact xl
    have n3 := (n.up m12).up m3
    refine .inl ⟨p, _, jj, _, rfl, rfl, .inl (.of (s3.frm p _ n.top)), by unfold atI; rw [List.length_map, n.len, hx1]; show (qs.map V.ref)[x]? = _; rw [List.getElem?_map, List.getElem?_eq_getElem xq]; rfl, ?_⟩
    refine ⟨e2, G3, Fr, B, s3, (ok_keep (ok_bind.mp k4)).imp (fun ok_ e3 ⟨y3, k5⟩ vk H4 G4 s4 m4 rk => ?_) fun _ _ w => w⟩
    obtain ⟨dk, hk2, k6⟩ := s4.der rk (ok_bind.mp k5)
    obtain ⟨rows', hr', k7⟩ := ok_liftO.mp k6
    obtain ⟨kk, hkk, hr1⟩ := Option.bind_eq_some_iff.mp hr'
    obtain rfl := intO_some hkk
    cases hk2.int
    obtain ⟨row, hrow, hr2⟩ := Option.bind_eq_some_iff.mp hr1
    cases hy : ixN row.length kk with
    | none => rw [hy] at hr2; cases hr2
    | some y =>
      rw [hy] at hr2
      cases hr2
      have n4 := n3.up m4
      have hq : qs[x]? = some qs[x] := List.getElem?_eq_getElem xq
      obtain ⟨vs, f1, f2⟩ := n4.ele x _ row hq hrow
      refine ⟨_, vs, kk, y, rfl, rfl, s4.frm _ _ f1, by rw [f2.len]; exact hy, ?_⟩
      have s5 : SR X.K (upd Fr qs[x] (.lst vs)) B σ H4 e3 G4 := by rw [upd_self f1]; exact s4
      exact k7 σ _ G4 _ (s5.frame (o' := .lst (vs.set y v))) ((m12.trans m3).trans m4) (n4.put hq hrow f1 f2 (r2.up (m3.trans m4))) z1 y3
/-- for d in ..: body -/
def nforGo (step : PyData → List (List PyData) → M (List (List PyData))) : List PyData → List (List PyData) → M (List (List PyData))
  | [], rows => pure rows
  | d :: ds, rows => do
    let r ← step d rows
    nforGo step ds r
def nforM (i : Nat) (mi : M (List PyData)) (bt : PyData → M Unit) (f : List (List PyData) → M (List (List PyData))) (rows : List (List PyData)) : M (List (List PyData)) := do
  let items ← keepM i mi
  nforGo (fun d rows => do keepM i (bt d); f rows) items rows
theorem ns_for (pr : Bool) (sl : List Nat) {tg iter : Expr} {body : List Stmt} {mi : M (List PyData)} {bt : PyData → M Unit} {f : List (List PyData) → M (List (List PyData))} (hsl : i ∉ sl) (hp : PassesOwn (model X.prog X.w) X.A X.env X.xe) (hc : X.calm = true) (hi : SI X W0 pr tg iter mi) (hg : SG X W0 pr tg sl bt) (hb : NSs X i body f)
    (hs : ∀ x, foldedSetIterable iter X.env x = pure x) : NS X i (.For tg iter body [] pos) (nforM i mi bt f) := weakS (ps_for hp hc hi hg hb hs) fun D σ H ⟨e, G, F, Fr, B, p, qs, rows, s, n, z1, z2, k⟩ => by
  refine ⟨e, G, Fr, B, s, (ok_keep (ok_bind.mp k)).imp (fun items e1 ⟨y1, k1⟩ J H1 G1 s1 m1 it => ?_) fun _ _ w => w⟩
  let Pv : Nat → St → Hp → Prop := fun j σ H => ∃ e G Fr rows, SR X.K Fr B σ H e G ∧ Same G1 G ∧ Nst X.K F Fr G p qs rows ∧ σ[i]? = some (some (.ref p)) ∧ e[i]? = some .un ∧
    Ok (nforGo (fun d rows => do keepM i (bt d); f rows) (items.drop j) rows) e (fun rows' e' => ∀ σ' H' G' Fr', SR X.K Fr' B σ' H' e' G' → Same G G' → Nst X.K F Fr' G' p qs rows' → σ'[i]? = some (some (.ref p)) → e'[i]? = some .un → D.nx σ' H') fun _ _ => False
  refine ⟨fun j m σ H => m = items.length - j ∧ j ≤ items.length ∧ Pv j σ H, ⟨_, rfl, Nat.zero_le _, e1, G1, Fr, rows, s1, .refl _, n.up m1, z1, y1, k1.imp (fun _ _ k2 σ2 H2 G2 Fr2 s2 m2 n2 a b => k2 σ2 H2 G2 Fr2 s2 (m1.trans m2) n2 a b) fun _ _ w => w⟩, ?_⟩
  rintro j m σ H ⟨rfl, hj, e, G, Fr, rows, s, sm, n, z1, z2, go⟩
  by_cases hlt : j < items.length
  · refine .inr ⟨it.go j H hlt (sm.trans s.sub), fun σ' H' => j + 1 ≤ items.length ∧ Pv (j + 1) σ' H', fun σ' H' q => ⟨_, by omega, rfl, q.1, q.2⟩, fun x H' y => ?_⟩
    obtain ⟨d, hd, hy⟩ := it.yld j H x H' hlt (sm.trans s.sub) y
    have hx : ∃ G', SR X.K Fr B σ H' e G' ∧ Same G G' ∧ RpP X.K pr G' x d := by
      rcases hy with ⟨rfl, rfl, r⟩ | ⟨a, vs, es, rfl, hp, rfl, rfl, rfl, r⟩
      · exact ⟨G, s, .refl _, r.up sm⟩
      · obtain ⟨s', m', r'⟩ := s.pair (r.up sm) hp
        exact ⟨_, s', m', r'⟩
    obtain ⟨G', s', m', r'⟩ := hx
    have dr : items.drop j = d :: items.drop (j + 1) := by
      rw [List.drop_eq_getElem_cons hlt]
      congr 1
      rw [List.getElem?_eq_getElem hlt] at hd
      exact Option.some.inj hd
    rw [dr] at go
    have go := ok_bind.mp go
    refine ⟨d, e, G', Fr, B, s', r', (ok_keep (ok_bind.mp go)).imp (fun _ e2 ⟨y2, k2⟩ σ2 H2 G2 s2 m2 ch => ?_) fun _ _ w => w⟩
    refine ⟨e2, G2, F, Fr, B, p, qs, rows, s2, (n.up m').up m2, by rw [ch.2 i hsl]; exact z1, y2, Ok.imp k2 (fun rows' e3 k3 σ3 H3 G3 Fr3 s3 m3 n3 a3 b3 => ?_) fun _ _ w => w⟩
    exact ⟨hlt, e3, G3, Fr3, rows', s3, sm.trans (m'.trans (m2.trans m3)), n3, a3, b3, Ok.imp k3 (fun _ _ k4 σ4 H4 G4 Fr4 s4 m4 n4 a4 b4 => k4 σ4 H4 G4 Fr4 s4 ((m'.trans (m2.trans m3)).trans m4) n4 a4 b4) fun _ _ w => w⟩
  · obtain rfl : j = items.length := by omega
    rw [List.drop_length] at go
    have go : ∀ σ' H' G' Fr', SR X.K Fr' B σ' H' e G' → Same G G' → Nst X.K F Fr' G' p qs rows → σ'[i]? = some (some (.ref p)) → e[i]? = some .un → D.nx σ' H' := go
    exact .inl ⟨it.stop H (sm.trans s.sub), go σ H G Fr s (.refl _) n z1 z2⟩
end
end Ev

set_option Elab.async false
set_option linter.all false
set_option maxRecDepth 100000
set_option maxHeartbeats 4000000
/-! EvX: the block that makes rows, writes them, gives them away. -/
namespace Ev
open PySem PySem.Spec L2
open Classical in
noncomputable def frameN (F Fr : Hp) (p : Addr) (qs : List Addr) : Hp := fun a => if a = p ∨ a ∈ qs then Fr a else F a
theorem set_same_self {α : Type} {l : List α} {i : Nat} {a : α} (h : l[i]? = some a) : l.set i a = l := by
  refine List.ext_getElem? fun j => ?_
  by_cases e : j = i
  · subst e
    rw [List.getElem?_set_self (lt_of_get h), h]
  · rw [List.getElem?_set_ne (Ne.symm e)]
section
variable {X : Cx} {W : WX}
theorem t_lcN {pr : Bool} {own sl : List Nat} {mi : M (List PyData)} {bt : PyData → M Unit} {me : M RV} (hsl : ∀ i ∈ sl, i ∈ own) {σ : St} {H : Hp} {Q : VK} {e0 : En} {G0 F : Hp} {B : List (Nat × Addr)} (s0 : SR X.K F B σ H e0 G0)
    (k : Ok (lcM own mi (turnN bt me)) e0 (fun r e' => ∀ p H' G' Fr qs rows, SR X.K Fr B σ H' e' G' → Same G0 G' → Nst X.K F Fr G' p qs rows → r.d = .list (rows.map PyData.list) → Q (.ref p) H') (WE X.K X.mg W F B G0)) :
    tLc (tI X.K X.mg W pr mi) (tG X.K X.mg W0 pr sl bt) (tBo X.K X.mg W0 (pure true)) (tV X.K X.mg W0 me) own σ H Q := by
  refine ⟨e0, G0, F, B, s0, (ok_bind.mp k).imp (fun items e1 k1 J H1 G1 s1 m1 it => ?_) fun _ _ w => w⟩
  intro D hD
  obtain ⟨ds, e2, hgo, kP⟩ := ok_lcRun k1
  let hid := hidF F σ H1 e1 own
  have sh := s1.hide own
  have hidD : hid D = none := sh.frm.free hD
  have FD : F D = none := s1.frm.free hD
  let Pv : Nat → Hp → Prop := fun i H => ∃ e G Fr qs rows, SR X.K Fr B (wipe σ own) H e G ∧ Same G1 G ∧ Nst X.K hid Fr G D qs rows ∧ lcGo own (turnN bt me) (items.drop i) e (rows.map PyData.list) = some (ds, e2)
  refine ⟨fun i m H => m = items.length - i ∧ i ≤ items.length ∧ Pv i H, ⟨_, rfl, Nat.zero_le _, wipeE e1 own, G1, upd hid D (.lst []), [], [], sh.newFr hD, .refl _, ⟨same_upd hidD, upd_same, hidD, rfl, fun j q r a _ => (by simp at a), fun q hq => (by cases hq), List.nodup_nil⟩, hgo⟩, ?_⟩
  rintro i m H ⟨rfl, hi, e, G, Fr, qs, rows, s, sm, n, go⟩
  by_cases hlt : i < items.length
  · refine .inr ⟨it.go i H hlt (sm.trans s.sub), fun H => i + 1 ≤ items.length ∧ Pv (i + 1) H, fun H' q => ⟨_, by omega, rfl, q.1, q.2⟩, fun x H' y => ?_⟩
    obtain ⟨d, hd, hy⟩ := it.yld i H x H' hlt (sm.trans s.sub) y
    have hx : ∃ G', SR X.K Fr B (wipe σ own) H' e G' ∧ Same G G' ∧ RpP X.K pr G' x d := by
      rcases hy with ⟨rfl, rfl, r⟩ | ⟨p, vs, es, rfl, hp, rfl, rfl, rfl, r⟩
      · exact ⟨G, s, .refl _, r.up sm⟩
      · obtain ⟨s', m', r'⟩ := s.pair (r.up sm) hp
        exact ⟨_, s', m', r'⟩
    obtain ⟨G', s', m', r'⟩ := hx
    have dr : items.drop i = d :: items.drop (i + 1) := by
      rw [List.drop_eq_getElem_cons hlt]
      congr 1
      rw [List.getElem?_eq_getElem hlt] at hd
      exact Option.some.inj hd
    rw [dr] at go
    unfold lcGo at go
    cases st : turnN bt me d e with
    | none => rw [st] at go; cases go
    | some rs =>
      cases rs with
      | ex x e' => rw [st] at go; cases go
      | ok o e5 =>
        rw [st] at go
        obtain ⟨_, e3, q1, q2⟩ := bind_some (m := bt d) st
        obtain ⟨r, e6, q5, q6⟩ := bind_some (m := me) q2
        obtain ⟨yd, e7, q7, q8⟩ := bind_some (m := liftO (freshL r)) q6
        have q7 : (freshL r).map (fun a => Rs.ok a e6) = some (.ok yd e7) := q7
        obtain ⟨y0, q9, q10⟩ := map_ok q7
        cases q10
        cases q8
        obtain ⟨rl, rfl, rfl⟩ := freshL_some q9
        have go : (if (rows.map PyData.list).length < most then lcGo own (turnN bt me) (items.drop (i + 1)) (wipeE e5 own) (rows.map PyData.list ++ [.list rl]) else none) = some (ds, e2) := go
        split at go
        · rename_i hz
          refine ⟨d, e, G', _, B, s', r', ok_of q1 fun σ2 H2 G2 s2 m2 n2 => ⟨?_, e3, G2, _, B, s2, fun H3 G3 s3 m3 => iteT ⟨e3, G3, _, B, s3, ok_of q5 fun y H4 G4 s4 m4 rr => ?_⟩⟩⟩
          · rw [wipe_same (σ := σ2) (τ := wipe σ own) n2.1 fun i hi => n2.2 i fun z => hi (hsl i z)]
            exact wipe_wipe
          · have wσ : wipe σ2 own = wipe σ own := by
              rw [wipe_same (σ := σ2) (τ := wipe σ own) n2.1 fun i hi => n2.2 i fun z => hi (hsl i z)]
              exact wipe_wipe
            obtain ⟨q, vs, dl, rfl, ed, z1, z2, z3, z4, z5⟩ := rr
            cases ed
            have m04 : Same G G4 := ((m'.trans m2).trans m3).trans m4
            have n4 := n.up m04
            have qD : q ≠ D := fun z => by rw [z, n.top] at z2; cases z2
            have s5 : SR X.K (upd (upd Fr q (.lst vs)) D (.lst (qs.map V.ref))) B σ2 H4 e5 G4 := by
              rw [upd_self (by rw [upd_ne (Ne.symm qD)]; exact n.top)]
              exact s4.inF z3 z1 z5
            have s6 := (s5.frame (o' := .lst ((qs ++ [q]).map V.ref))).drop own
            rw [wσ] at s6
            have qq : q ∉ qs := fun z => by
              obtain ⟨j, hj⟩ := List.mem_iff_getElem?.mp z
              have hj2 : j < rows.length := by rw [← n.len]; exact lt_of_get hj
              obtain ⟨ws, w1, _⟩ := n.ele j q rows[j] hj (List.getElem?_eq_getElem hj2)
              rw [w1] at z2
              cases z2
            have hq0 : hid q = none := n.sub.free z2
            refine ⟨qs.map V.ref, s4.frm D _ n.top, ?_, hlt, wipeE e5 own, G4, _, qs ++ [q], rows ++ [rl], by rw [show (qs.map V.ref ++ [V.ref q]) = (qs ++ [q]).map V.ref by simp]; exact s6, sm.trans m04, ⟨fun a o z => ?_, upd_same, hidD, by simp [n.len], fun j a r w1 w2 => ?_, fun a ha => ?_, ?_⟩, by simpa using go⟩
            · rw [List.length_map, n.len]
              rw [List.length_map] at hz
              exact Nat.lt_of_lt_of_le hz (by decide)
            · rw [upd_ne (ne_of_none z hidD), upd_ne (ne_of_none z hq0)]
              exact n.sub a o z
            · rcases Nat.lt_or_ge j qs.length with lj | lj
              · rw [List.getElem?_append_left lj] at w1
                rw [List.getElem?_append_left (by rw [← n.len]; exact lj)] at w2
                obtain ⟨ws, y1, y2⟩ := n4.ele j a r w1 w2
                exact ⟨ws, by rw [upd_ne (n.fel a (List.mem_of_getElem? w1)).2, upd_ne (fun z => by rw [z, z2] at y1; cases y1)]; exact y1, y2⟩
              · rw [List.getElem?_append_right lj] at w1
                rw [List.getElem?_append_right (by rw [← n.len]; exact lj), ← n.len] at w2
                cases hj : j - qs.length with
                | zero =>
                  rw [hj] at w1 w2
                  cases w1
                  cases w2
                  exact ⟨vs, by rw [upd_ne qD, upd_same], z4⟩
                | succ t => rw [hj] at w1; simp at w1
            · rcases List.mem_append.mp ha with ha | ha
              · exact n.fel a ha
              · rw [List.mem_singleton] at ha
                subst ha
                exact ⟨hq0, qD⟩
            · exact List.nodup_append.mpr ⟨n.nd, by simp, fun a ha b hb z => by
                rw [List.mem_singleton] at hb
                exact qq (by rw [← hb, ← z]; exact ha)⟩
        · cases go
  · obtain rfl : i = items.length := by omega
    rw [List.drop_length] at go
    have go : some (rows.map PyData.list, e) = some (ds, e2) := go
    cases go
    have keep : ∀ a o, upd hid D (.lst (qs.map V.ref)) a = some o → Fr a = some o := fun a o z => by
      by_cases h : a = D
      · subst h; rw [upd_same] at z; rw [← z]; exact n.top
      · rw [upd_ne h] at z; exact n.sub a o z
    have sb := s1.back (s.lessF keep) sm hD
    have fq : ∀ q ∈ qs, F q = none := fun q hq => by
      cases z : F q with
      | none => rfl
      | some o =>
        have z2 : hid q = some o := hid_F s1 z
        rw [(n.fel q hq).1] at z2
        cases z2
    -- what the frame holds anew is no slot's
    have no : ∀ a o, hid a = none → Fr a = some o → a ≠ D → ∀ (j : Nat) (b : Bool) (es : List PyData), (backE e1 e2 own)[j]? = some (.ow b es) → σ[j]? ≠ some (some (.ref a)) := fun a o h1 h2 _ j b es q z => by
      rcases backE_in q with ⟨mj, w⟩ | ⟨mj, w⟩
      · rw [List.getD_eq_getElem?_getD] at w
        cases w1 : e1[j]? with
        | none => rw [w1] at w; cases w
        | some x =>
          rw [w1] at w
          have w : x = .ow b es := w.symm
          subst w
          obtain ⟨p, ws, k1, k2, k3, k4, _⟩ := s1.ows j b es w1
          rw [z] at k1
          cases k1
          have : hid a = H1 a := hid_of mj w1 z
          rw [h1, k4] at this
          cases this
      · obtain ⟨p, ws, k1, k2, k3, _⟩ := s.ows j b es w
        rw [wipe_out' mj, z] at k1
        cases k1
        rw [h2] at k3
        cases k3
    have elq : ∀ q ∈ qs, ∃ vs, Fr q = some (.lst vs) := fun q hq => by
      obtain ⟨j, hj⟩ := List.mem_iff_getElem?.mp hq
      have hj2 : j < rows.length := by rw [← n.len]; exact lt_of_get hj
      obtain ⟨ws, w1, _⟩ := n.ele j q rows[j] hj (List.getElem?_eq_getElem hj2)
      exact ⟨ws, w1⟩
    have Dq : D ∉ qs := fun z => (n.fel D z).2 rfl
    have inN : ∀ a, (a = D ∨ a ∈ qs) → frameN F Fr D qs a = Fr a := fun a h => by unfold frameN; rw [if_pos h]
    have outN : ∀ a, ¬ (a = D ∨ a ∈ qs) → frameN F Fr D qs a = F a := fun a h => by unfold frameN; rw [if_neg h]
    refine .inl ⟨it.stop H (sm.trans s.sub), kP D H G (frameN F Fr D qs) qs rows ⟨sb.len, sb.sub, fun a o z => ?_, fun a o z => ?_, sb.vls, fun j b es q => ?_, sb.dis⟩ (m1.trans sm) ⟨fun a o z => ?_, by rw [inN D (.inl rfl)]; exact n.top, FD, n.len, fun j q r a b => ?_, fun q hq => ⟨fq q hq, (n.fel q hq).2⟩, n.nd⟩ rfl⟩
    · by_cases h : a = D ∨ a ∈ qs
      · rw [inN a h] at z; exact s.frm a o z
      · rw [outN a h] at z; exact sb.frm a o z
    · by_cases h : a = D ∨ a ∈ qs
      · rw [inN a h] at z; exact s.dsj a o z
      · rw [outN a h] at z; exact sb.dsj a o z
    · obtain ⟨p, ws, k1, k2, k3, k4, k5, k6⟩ := sb.ows j b es q
      refine ⟨p, ws, k1, k2, ?_, k4, k5, k6⟩
      rw [outN p]
      · exact k3
      · intro h
        rcases h with h | h
        · subst h
          rcases backE_in q with ⟨mj, w⟩ | ⟨mj, w⟩
          · rw [List.getD_eq_getElem?_getD] at w
            cases w1 : e1[j]? with
            | none => rw [w1] at w; cases w
            | some x =>
              rw [w1] at w
              have w : x = .ow b es := w.symm
              subst w
              obtain ⟨p', ws', y1, y2, y3, y4, _⟩ := s1.ows j b es w1
              rw [k1] at y1
              cases y1
              rw [hD] at y4
              cases y4
          · obtain ⟨p', ws', y1, y2, y3, _⟩ := s.ows j b es w
            rw [wipe_out' mj, k1] at y1
            cases y1
            rw [n.top] at y3
            cases y3
        · obtain ⟨vs, hv⟩ := elq p h
          exact no p _ (n.fel p h).1 hv (n.fel p h).2 j b es q k1
    · rw [outN a]
      · exact z
      · rintro (h | h)
        · rw [h, FD] at z; cases z
        · rw [fq a h] at z; cases z
    · obtain ⟨vs, h1, h2⟩ := n.ele j q r a b
      exact ⟨vs, by rw [inN q (.inr (List.mem_of_getElem? a))]; exact h1, h2⟩
/-- slot i is forgotten -/
theorem SR.setUn {K : PySem.W.Frag} {F : Hp} {B : List (Nat × Addr)} {σ : St} {H : Hp} {e : En} {G : Hp} (s : SR K F B σ H e G) (i : Nat) (v : Option V) : SR K F B (σ.set i v) H (e.set i .un) G := by
  refine ⟨by simp [s.len], s.sub, s.frm, s.dsj, fun j d q => ?_, fun j b ds q => ?_, fun j l b c ds es p q1 q2 q3 q4 => ?_⟩
  · rcases set_get q with ⟨_, w⟩ | ⟨ne, w⟩
    · cases w
    · obtain ⟨x, h1, h2⟩ := s.vls j d w
      exact ⟨x, by rw [List.getElem?_set_ne (Ne.symm ne)]; exact h1, h2⟩
  · rcases set_get q with ⟨_, w⟩ | ⟨ne, w⟩
    · cases w
    · obtain ⟨p, vs, h1, r⟩ := s.ows j b ds w
      exact ⟨p, vs, by rw [List.getElem?_set_ne (Ne.symm ne)]; exact h1, r⟩
  · rcases set_get q1 with ⟨_, w⟩ | ⟨ne, w⟩
    · cases w
    · rcases set_get q2 with ⟨_, w'⟩ | ⟨ne2, w'⟩
      · cases w'
      · rw [List.getElem?_set_ne (Ne.symm ne)] at q3
        rw [List.getElem?_set_ne (Ne.symm ne2)] at q4
        exact s.dis j l b c ds es p w w' q3 q4
def unM (i : Nat) : M Unit := fun e => if i < e.length then some (.ok () (e.set i .un)) else none
theorem ok_un {i : Nat} {e : En} {P : Unit → En → Prop} {W : Exn → En → Prop} (h : Ok (unM i) e P W) : i < e.length ∧ P () (e.set i .un) := by
  unfold Ok unM at h
  by_cases q : i < e.length
  · rw [if_pos q] at h; exact ⟨q, h⟩
  · rw [if_neg q] at h; exact h.elim
def rowsD (d : PyData) : Option (List (List PyData)) := (rowOf d).bind rowsOf
def nestM (i : Nat) (own : List Nat) (mi : M (List PyData)) (bt : PyData → M Unit) (me : M RV) (f : List (List PyData) → M (List (List PyData))) (rest : M Fl) : M Fl := do
  let r ← lcM own mi (turnN bt me)
  let rows ← liftO (rowsD r.d)
  unM i
  let rows' ← noX (f rows)
  store i ⟨.list (rows'.map PyData.list), false⟩
  rest
theorem g_nest (pr : Bool) (i : Nat) (sl : List Nat) (own : List (Str × Nat)) {y : Str} {py pos spos : Pos} {elt tg iter : Expr} {scope : Scope} {mi : M (List PyData)} {bt : PyData → M Unit} {me : M RV} {st : Stmt} {sts : List Stmt} {f : List (List PyData) → M (List (List PyData))} {m : M Fl}
    (hsl : ∀ i ∈ sl, i ∈ own.map (·.2)) (hc : X.calm = true) (hN : X.N.Nodup) (hy : X.N[i]? = some y) (hyl : X.env.scope.names.lookup y = some .local)
    (hsw : swapsWith (.ListComp elt [⟨tg, iter, [], 0⟩] scope pos) (some (.Name y py)) spos.line X.env = pure true) (hi : SI X W pr tg iter mi) (ok : blkB X.N X.env.scope scope own = true)
    (hg : ∀ (s : Shared) (H : Hp) (C : Addr) (cl : List (Str × Addr)) (fp : List Addr), SG (X.blk s H scope (compEnvC scope cl C X.env) fp) W0 pr tg sl bt)
    (he : ∀ (s : Shared) (H : Hp) (C : Addr) (cl : List (Str × Addr)) (fp : List Addr), SV (X.blk s H scope (compEnvC scope cl C X.env) fp) W0 elt me) (hs : ∀ x, foldedSetIterable iter X.env x = pure x)
    (hf : NS X i st f) (hr : SSs X W sts m) : SSs X W (.Assign [.Name y py] (.ListComp elt [⟨tg, iter, [], 0⟩] scope pos) spos :: st :: sts) (nestM i (own.map (·.2)) mi bt me f m) :=
  weakSs (pss_cons (ps_setLc (wi := tI X.K X.mg W pr mi) (g := tG X.K X.mg W0 pr sl bt) (tt := tBo X.K X.mg W0 (pure true)) (te := tV X.K X.mg W0 me) hc hN hy hyl hsw hi (blk_of ok) hg (fun s H C cl fp => sps_nil (W := W0)) he hs) (pss_cons hf hr)) fun D σ H ⟨en, G, F, B, s, k⟩ => by
    unfold L2.tSeq L2.tAsg
    refine t_lcN hsl s ((ok_bind.mp k).imp (fun r e1 k1 p H1 G1 Fr qs rows s1 m1 n1 ed => ?_) fun _ _ w => w)
    have k1 : Ok (do let rows ← liftO (rowsD r.d); unM i; let rows' ← noX (f rows); store i ⟨.list (rows'.map PyData.list), false⟩; m) e1 (FlP X.K F B G D) (WE X.K X.mg W F B G) := k1
    obtain ⟨rows0, h0, k2⟩ := ok_liftO.mp (ok_bind.mp k1)
    have e0 : rows0 = rows := by
      rw [ed] at h0
      have h0 : rowsOf (rows.map PyData.list) = some rows0 := h0
      rw [rowsOf_map] at h0
      exact (Option.some.inj h0).symm
    subst e0
    obtain ⟨il, k3⟩ := ok_un (ok_bind.mp k2)
    have k4 := ok_noX (W' := fun _ _ => False) (show Ok (noX (f rows0)) (e1.set i .un) (fun rows' e' => Ok (do store i ⟨.list (rows'.map PyData.list), false⟩; m) e' (FlP X.K F B G D) (WE X.K X.mg W F B G)) (WE X.K X.mg W F B G) from ok_bind.mp k3)
    have isl : i < σ.length := by rw [← s1.len]; exact il
    refine ⟨e1.set i .un, G1, F, Fr, B, p, qs, rows0, s1.setUn i _, n1, List.getElem?_set_self isl, List.getElem?_set_self il, k4.imp (fun rows' e2 k5 σ2 H2 G2 Fr2 s2 m2 n2 z1 z2 => ?_) fun _ _ w => w⟩
    obtain ⟨G3, s3, m3, r3⟩ := n2.give s2
    obtain ⟨_, k6⟩ := ok_store (ok_bind.mp k5)
    have s4 := s3.set (i := i) r3
    rw [show σ2.set i (some (.ref p)) = σ2 from set_same_self z1] at s4
    exact ⟨_, G3, F, B, s4, Ok.imp k6 (fun _ _ z => z.up (m1.trans (m2.trans m3))) fun _ _ z => z.up (m1.trans (m2.trans m3))⟩
end
end Ev

set_option Elab.async false
set_option linter.all false
set_option maxRecDepth 100000
set_option maxHeartbeats 4000000
/-! EvXa: a comprehension over a list of one's own that stays one's own. -/
namespace Ev
open PySem PySem.Spec L2
section
variable {K : PySem.W.Frag} {F : Hp} {B : List (Nat × Addr)} {σ : St} {H : Hp} {e : En} {G : Hp}
/-- a list of one's own into the frame -/
theorem SR.lend (s : SR K F B σ H e G) {i : Nat} {b : Bool} {ds : List PyData} {p : Addr} {vs : List V} (q : e[i]? = some (.ow b ds)) (hp : σ[i]? = some (some (.ref p))) (hv : H p = some (.lst vs)) (gp : G p = none) : SR K (upd F p (.lst vs)) B σ H (e.set i .un) G := by
  have s1 := s.setUn i (some (.ref p))
  rw [set_same_self hp] at s1
  refine s1.inF hv gp fun j c es w z => ?_
  rcases set_get w with ⟨_, w⟩ | ⟨ne, w⟩
  · cases w
  · exact ne (s.dis j i c b es ds p w q z hp)
/-- and back -/
theorem SR.unlend {p : Addr} {vs : List V} {i : Nat} {b : Bool} {ds : List PyData} (s : SR K (upd F p (.lst vs)) B σ H e G) (fp : F p = none) (hu : e[i]? = some .un) (hp : σ[i]? = some (some (.ref p))) (r : RpAll K G vs ds) (hb : b = true → (i, p) ∈ B) : SR K F B σ H (e.set i (.ow b ds)) G := by
  have sm : Same F (upd F p (.lst vs)) := same_upd fp
  have s0 := s.lessF sm
  have gp : G p = none := s.dsj p _ upd_same
  have hv : H p = some (.lst vs) := s.frm p _ upd_same
  have no := s.noF (a := p) (o := .lst vs) upd_same
  refine ⟨by rw [List.length_set]; exact s0.len, s0.sub, s0.frm, s0.dsj, fun j d q => ?_, fun j c es q => ?_, fun j l c c2 es es2 p2 q1 q2 q3 q4 => ?_⟩
  · rcases set_get q with ⟨_, w⟩ | ⟨_, w⟩
    · cases w
    · exact s0.vls j d w
  · rcases set_get q with ⟨rfl, w⟩ | ⟨_, w⟩
    · cases w
      exact ⟨p, vs, hp, gp, fp, hv, r, hb⟩
    · exact s0.ows j c es w
  · rcases set_get q1 with ⟨rfl, w1⟩ | ⟨ne1, w1⟩
    · rcases set_get q2 with ⟨rfl, w2⟩ | ⟨ne2, w2⟩
      · rfl
      · rw [hp] at q3
        cases q3
        exact absurd q4 (no l c2 es2 w2)
    · rcases set_get q2 with ⟨rfl, w2⟩ | ⟨ne2, w2⟩
      · rw [hp] at q4
        cases q4
        exact absurd q3 (no j c es w1)
      · exact s0.dis j l c c2 es es2 p2 w1 w2 q3 q4
end
/-- [.. for .. in the list at slot k]: the list is not touched meanwhile -/
def lcK (k : Nat) (own : List Nat) (step : PyData → M (Option PyData)) : M RV := fun e => match e[k]? with
  | some (.ow b ds) => (lcGo own step ds (wipeE (e.set k .un) own) []).bind fun r => if isUn (backE (e.set k .un) r.2 own)[k]? = true then some (.ok ⟨.list r.1, true⟩ ((backE (e.set k .un) r.2 own).set k (.ow b ds))) else none
  | _ => none
theorem is_un {e : En} {k : Nat} (h : isUn e[k]? = true) : e[k]? = some .un := by
  unfold isUn at h
  split at h
  · assumption
  · cases h
section
variable {X : Cx} {W : WX}
theorem t_lcK {k0 : Nat} {own sl : List Nat} {bt : PyData → M Unit} {mc : M Bool} {me : M RV} (hsl : ∀ i ∈ sl, i ∈ own) {σ : St} {H : Hp} {Q : VK} (q : tV X.K X.mg W (lcK k0 own (turnM bt mc me)) σ H Q) :
    tLc (iList X.K (tVar k0)) (tG X.K X.mg W0 false sl bt) (tBo X.K X.mg W0 mc) (tV X.K X.mg W0 me) own σ H Q := by
  obtain ⟨e0, G1, F0, B, s0, k⟩ := q
  have hk : ∃ b items ds e2, e0[k0]? = some (.ow b items) ∧ lcGo own (turnM bt mc me) items (wipeE (e0.set k0 .un) own) [] = some (ds, e2) ∧ (backE (e0.set k0 .un) e2 own)[k0]? = some .un ∧
      ∀ v H' G', SR X.K F0 B σ H' ((backE (e0.set k0 .un) e2 own).set k0 (.ow b items)) G' → Same G1 G' → RR X.K F0 σ H' ((backE (e0.set k0 .un) e2 own).set k0 (.ow b items)) G' v ⟨.list ds, true⟩ → Q v H' := by
    unfold Ok lcK at k
    cases w : e0[k0]? with
    | none => simp [w] at k
    | some x =>
      cases x with
      | un => simp [w] at k
      | vl d => simp [w] at k
      | ow b items =>
        simp only [w] at k
        cases z : lcGo own (turnM bt mc me) items (wipeE (e0.set k0 .un) own) [] with
        | none => simp [z] at k
        | some r =>
          simp only [z, Option.bind_some] at k
          by_cases u : isUn (backE (e0.set k0 .un) r.2 own)[k0]? = true
          · simp only [u, if_true] at k
            exact ⟨b, items, r.1, r.2, rfl, z, is_un u, k⟩
          · simp [u] at k
  obtain ⟨b, items, ds, e2, w0, hgo, hun, kP⟩ := hk
  obtain ⟨p, vs0, hp, gp, fp, hv, rp, hb⟩ := s0.ows k0 b items w0
  have s1 : SR X.K (upd F0 p (.lst vs0)) B σ H (e0.set k0 .un) G1 := s0.lend w0 hp hv gp
  generalize hF : upd F0 p (.lst vs0) = F at *
  have Fp : F p = some (.lst vs0) := by rw [← hF, upd_same]
  generalize he1 : e0.set k0 .un = e1 at *
  refine ⟨.ref p, hp, p, rfl, ⟨vs0, .inl (.of hv)⟩, ?_⟩
  intro D hD
  have neD : p ≠ D := fun z => by rw [z, hD] at hv; cases hv
  let Pv : Nat → Hp → Prop := fun i H' => ∃ e G acc accD, SR X.K (upd (hidF F σ H e1 own) D (.lst acc)) B (wipe σ own) H' e G ∧ Same G1 G ∧ RpAll X.K G acc accD ∧ lcGo own (turnM bt mc me) (items.drop i) e accD = some (ds, e2)
  have hidp : hidF F σ H e1 own p = some (.lst vs0) := by
    unfold hidF
    split
    · exact hv
    · exact Fp
  have stay : ∀ {acc : List V} {σ' : St} {H' : Hp} {e : En} {G : Hp}, SR X.K (upd (hidF F σ H e1 own) D (.lst acc)) B σ' H' e G → SqL X.K H' p vs0 := fun s => .inl (.of (s.frm p _ (by rw [upd_ne neD]; exact hidp)))
  refine ⟨fun i m H => m = items.length - i ∧ i ≤ items.length ∧ Pv i H, ⟨_, rfl, Nat.zero_le _, wipeE e1 own, G1, [], [], (s1.hide own).newFr hD, .refl _, .nil, hgo⟩, ?_⟩
  rintro i m H0 ⟨rfl, hi, e, G, acc, accD, s, sm, ra, go⟩
  by_cases hlt : i < items.length
  · have hlt2 : i < vs0.length := by rw [rp.len]; exact hlt
    refine .inr ⟨⟨vs0, vs0[i], stay s, List.getElem?_eq_getElem hlt2⟩, fun H => Pv (i + 1) H, fun H' p => ⟨_, by omega, rfl, hlt, p⟩, fun x H' y => ?_⟩
    obtain ⟨rfl, hx⟩ := y
    obtain ⟨d, hd, r'⟩ := rp.getV (hx vs0 (stay s))
    have r' : RpP X.K false G x d := r'.up sm
    have s' := s
    have m' : Same G G := .refl _
    have dr : items.drop i = d :: items.drop (i + 1) := by
      rw [List.drop_eq_getElem_cons hlt]
      congr 1
      rw [List.getElem?_eq_getElem hlt] at hd
      exact Option.some.inj hd
    rw [dr] at go
    unfold lcGo at go
    cases st : turnM bt mc me d e with
    | none => rw [st] at go; cases go
    | some rs =>
      cases rs with
      | ex x e' => rw [st] at go; cases go
      | ok o e5 =>
        rw [st] at go
        obtain ⟨_, e3, q1, q2⟩ := bind_some (m := bt d) st
        obtain ⟨b, e4, q3, q4⟩ := bind_some (m := mc) q2
        refine ⟨d, e, G, _, B, s', r', ok_of q1 fun σ2 H2 G2 s2 m2 n2 => ⟨?_, e3, G2, _, B, s2, ok_of q3 fun H3 G3 s3 m3 => ?_⟩⟩
        · rw [wipe_same (σ := σ2) (τ := wipe σ own) n2.1 fun i hi => n2.2 i fun z => hi (hsl i z)]
          exact wipe_wipe
        · have wσ : wipe σ2 own = wipe σ own := by
            rw [wipe_same (σ := σ2) (τ := wipe σ own) n2.1 fun i hi => n2.2 i fun z => hi (hsl i z)]
            exact wipe_wipe
          have m03 : Same G1 G3 := (((sm.trans m').trans m2).trans m3)
          have fin : ∀ {H6 : Hp} {e6 : En} {G6 : Hp} {acc' : List V}, SR X.K (upd (hidF F σ H e1 own) D (.lst acc')) B σ2 H6 e6 G6 → SR X.K (upd (hidF F σ H e1 own) D (.lst acc')) B (wipe σ own) H6 (wipeE e6 own) G6 := fun s6 => by
            rw [← wσ]
            exact s6.drop own
          cases b with
          | false =>
            have q4 : (pure none : M (Option PyData)) e4 = some (.ok o e5) := q4
            cases q4
            exact iteF ⟨_, G3, acc, accD, fin s3, m03, ra.up ((m'.trans m2).trans m3), go⟩
          | true =>
            obtain ⟨r, e6, q5, q6⟩ := bind_some (m := me) q4
            cases q6
            have go : (if accD.length < most then lcGo own (turnM bt mc me) (items.drop (i + 1)) (wipeE e5 own) (accD ++ [r.d]) else none) = some (ds, e2) := go
            split at go
            · rename_i hz
              refine iteT ⟨e4, G3, _, B, s3, ok_of q5 fun y H4 G4 s4 m4 rr => ?_⟩
              obtain ⟨G5, s5, m5, r5⟩ := rr.freeze s4
              refine ⟨acc, s5.frm D _ upd_same, ?_, ?_⟩
              · rw [ra.len]
                exact Nat.lt_of_lt_of_le hz (by decide)
              · exact ⟨_, G5, acc ++ [y], accD ++ [r.d], (fin s5).frame, (m03.trans m4).trans m5, (ra.up ((((m'.trans m2).trans m3).trans m4).trans m5)).app (.cons r5 .nil), go⟩
            · cases go
  · have hin : i = items.length := by omega
    subst hin
    rw [List.drop_length] at go
    have go : some (accD, e) = some (ds, e2) := go
    cases go
    have sb := s1.back s sm hD
    have gD : G D = none := s.dsj D _ upd_same
    have noD : ∀ (j : Nat) (b : Bool) (es : List PyData), (backE e1 e2 own)[j]? = some (.ow b es) → σ[j]? ≠ some (some (.ref D)) := fun j b es q z => by
      obtain ⟨p, ws, h1, h2, h3, h4, _⟩ := sb.ows j b es q
      rw [z] at h1
      cases h1
      rcases backE_in q with ⟨mj, w⟩ | ⟨mj, w⟩
      · rw [List.getD_eq_getElem?_getD] at w
        cases w1 : e1[j]? with
        | none => rw [w1] at w; cases w
        | some x =>
          rw [w1] at w
          have w : x = .ow b es := w.symm
          subst w
          obtain ⟨p, ws, k1, k2, k3, k4, _⟩ := s1.ows j b es w1
          rw [z] at k1
          cases k1
          rw [hD] at k4
          cases k4
      · obtain ⟨p, ws, k1, k2, k3, _⟩ := s.ows j b es w
        rw [wipe_out' mj, z] at k1
        cases k1
        rw [upd_same] at k3
        cases k3
    rw [← hF] at sb
    have sf := sb.unlend fp hun hp (rp.up sm) hb
    refine .inl ⟨⟨vs0, stay s, by rw [rp.len]; exact Nat.le_refl _⟩, kP _ H0 G sf sm ⟨D, acc, ds, rfl, rfl, gD, s0.newF hD, s.frm D _ upd_same, ra, fun j c es q z => ?_⟩⟩
    rcases set_get q with ⟨rfl, w⟩ | ⟨_, w⟩
    · rw [hp] at z
      cases z
      exact neD rfl
    · exact noD j c es w z
theorem g_lcK (k0 : Nat) (sl : List Nat) (own : List (Str × Nat)) {elt tg iter : Expr} {scope : Scope} {pos : Pos} {bt : PyData → M Unit} {mc : M Bool} {me : M RV} {ifs : List Expr} (hsl : ∀ i ∈ sl, i ∈ own.map (·.2)) (hc : X.calm = true) (hN : X.N.Nodup) (hi : PE X iter (tVar k0)) (ok : blkB X.N X.env.scope scope own = true)
    (hg : ∀ (s : Shared) (H : Hp) (C : Addr) (cl : List (Str × Addr)) (fp : List Addr), SG (X.blk s H scope (compEnvC scope cl C X.env) fp) W0 false tg sl bt)
    (ht : ∀ (s : Shared) (H : Hp) (C : Addr) (cl : List (Str × Addr)) (fp : List Addr), SPs (X.blk s H scope (compEnvC scope cl C X.env) fp) W0 ifs mc)
    (he : ∀ (s : Shared) (H : Hp) (C : Addr) (cl : List (Str × Addr)) (fp : List Addr), SV (X.blk s H scope (compEnvC scope cl C X.env) fp) W0 elt me) (hs : ∀ x, foldedSetIterable iter X.env x = pure x) :
    SV X W (.ListComp elt [⟨tg, iter, ifs, 0⟩] scope pos) (lcK k0 (own.map (·.2)) (turnM bt mc me)) :=
  weakE (pe_lc hc hN (pi_list hi) (blk_of ok) hg ht he hs) fun _ _ _ q => t_lcK hsl q
end
end Ev

set_option Elab.async false
set_option linter.all false
set_option maxRecDepth 100000
set_option maxHeartbeats 4000000
/-! EvXb: list(range(..)), tuple(range(..)). -/
namespace Ev
open PySem PySem.Spec L2
section
variable {X : Cx} {W : WX}
def tTupRgZ (te : L2.St → Hp → (Int → Int → Hp → Prop) → Prop) : TE := fun σ H Q => te σ H fun a b H1 => RgOk a b ∧ NewT (rgV a b) H1 Q
theorem pe_tupRgZ {e : Expr} {te : L2.St → Hp → (Int → Int → Hp → Prop) → Prop} {p pos : Pos} (hc : X.calm = true) (hg : Gl X "tuple") (hm : X.mg "tuple" = none) (he : PRg X e te) (na : starEach [e] X.env = (false, eval e X.env) :: starEach [] X.env) : PE X (.Call (.Name "tuple" p) [e] [] pos) (tTupRgZ te) := by
  refine ⟨fun pins s σ H Q I h => ?_⟩
  refine PyProof.Rows.Call_ (ld_blt I hg hm PyProof.Rows.boot_tuple (PyProof.Rows.callWith_type1 (PyProof.Rows.args_cons (thn (he pins s σ H _ I h) fun x s1 ⟨r, a, b, t, u, v, H1, ex, hr, I1, ok, q⟩ => PyProof.Rows.args_nil ?_) na) na))
  subst ex
  obtain ⟨b1, b2, b3, b4, b5⟩ := ok
  refine call_tuple_range (n := (b - a).toNat) (I1.ok.hd hc) hr (small_one b1 b2 b3 b4) (PyProof.Rows.rangeSize_nat a b) b5 fun h' tk acc hk hi => ?_
  have I2 : Inv X pins σ H1 { s1 with heap := h', toks := tk } := I1.kept hk
  have n := newT (t := tk) I2 (vals_rg hi) (by rw [rgV_length, sizeLine_eq]; omega) q
  rw [Array.toArray_toList] at n
  exact n
theorem rg_rp {K : PySem.W.Frag} {G : Hp} (a b : Int) : RpAll K G (rgV a b) (rngI a (b - a).toNat) := by
  have h := rps_ints (K := K) (G := G) ((List.range (b - a).toNat).map fun i => a + (i : Nat))
  rw [List.map_map, List.map_map] at h
  exact h
def lrgM (m : M OV) : M RV := do
  let ds ← rng1M m
  pure ⟨.list ds, true⟩
def trgM (m : M OV) : M RV := do
  let ds ← rng1M m
  pure ⟨.tuple ds, false⟩
theorem rng_some {d : PyData} {items : List PyData} (h : rngD [d] = some items) : ∃ j, d = .int j ∧ -1000000 < j ∧ j < 1000000 ∧ items = rngI 0 (j - 0).toNat := by
  unfold rngD at h
  split at h
  · rename_i j ej
    injection ej with ej _
    subst ej
    split at h
    · rename_i z
      cases h
      exact ⟨j, rfl, z.1, z.2, by rw [Int.sub_zero]⟩
    · cases h
  · rename_i ej
    cases ej
  · cases h
theorem sv_lrg {e : Expr} {p p2 pos pos2 : Pos} {m : M OV} (hc : X.calm = true) (hg : Gl X "list") (hm : X.mg "list" = none) (hg2 : Gl X "range") (hm2 : X.mg "range" = none) (h : SO X W e m) (na2 : starEach [e] X.env = (false, eval e X.env) :: starEach [] X.env)
    (na : starEach [.Call (.Name "range" p2) [e] [] pos2] X.env = (false, eval (.Call (.Name "range" p2) [e] [] pos2) X.env) :: starEach [] X.env) : SV X W (.Call (.Name "list" p) [.Call (.Name "range" p2) [e] [] pos2] [] pos) (lrgM m) :=
  weakE (pe_listRg hc hg hm (prg_1 hg2 hm2 h na2) na) fun σ H Q ⟨en, G, F, B, s, k⟩ => by
    refine ⟨en, G, F, B, s, (ok_bind.mp (ok_bind.mp k)).imp (fun o e1 k1 v H1 G1 s1 m1 r1 => ?_) fun _ _ w => w⟩
    obtain ⟨d, hd, k2⟩ := s1.der r1 (ok_bind.mp k1)
    obtain ⟨items, hi, k3⟩ := ok_liftO.mp k2
    obtain ⟨j, rfl, z1, z2, rfl⟩ := rng_some hi
    cases hd.int
    refine ⟨j, rfl, ⟨by omega, by omega, by omega, by omega, by omega⟩, fun q hq => ?_⟩
    have k3 : Post X.K F B σ e1 G ⟨.list (rngI 0 (j - 0).toNat), true⟩ Q := k3
    exact Post.lst (fun v H' G' a b c => k3 v H' G' a (m1.trans b) c) s1 (rg_rp 0 j) hq
theorem sv_trg {e : Expr} {p p2 pos pos2 : Pos} {m : M OV} (hc : X.calm = true) (hg : Gl X "tuple") (hm : X.mg "tuple" = none) (hg2 : Gl X "range") (hm2 : X.mg "range" = none) (h : SO X W e m) (na2 : starEach [e] X.env = (false, eval e X.env) :: starEach [] X.env)
    (na : starEach [.Call (.Name "range" p2) [e] [] pos2] X.env = (false, eval (.Call (.Name "range" p2) [e] [] pos2) X.env) :: starEach [] X.env) : SV X W (.Call (.Name "tuple" p) [.Call (.Name "range" p2) [e] [] pos2] [] pos) (trgM m) :=
  weakE (pe_tupRgZ hc hg hm (prg_1 hg2 hm2 h na2) na) fun σ H Q ⟨en, G, F, B, s, k⟩ => by
    refine ⟨en, G, F, B, s, (ok_bind.mp (ok_bind.mp k)).imp (fun o e1 k1 v H1 G1 s1 m1 r1 => ?_) fun _ _ w => w⟩
    obtain ⟨d, hd, k2⟩ := s1.der r1 (ok_bind.mp k1)
    obtain ⟨items, hi, k3⟩ := ok_liftO.mp k2
    obtain ⟨j, rfl, z1, z2, rfl⟩ := rng_some hi
    cases hd.int
    refine ⟨j, rfl, ⟨by omega, by omega, by omega, by omega, by omega⟩, ?_⟩
    have k3 : Post X.K F B σ e1 G ⟨.tuple (rngI 0 (j - 0).toNat), false⟩ Q := k3
    exact Post.tup (fun v H' G' a b c => k3 v H' G' a (m1.trans b) c) s1 (rg_rp 0 j)
end
end Ev

set_option Elab.async false
set_option linter.all false
set_option maxRecDepth 100000
set_option maxHeartbeats 4000000
/-! EvY: mirrors run. -/
namespace Ev
open PySem PySem.Spec L2
def bndR {α β : Type} (x : Option (Rs α)) (f : α → M β) : Option (Rs β) := match x with
  | none => none
  | some (.ok a e) => f a e
  | some (.ex y e) => some (.ex y e)
section
variable {α β : Type}
@[simp] theorem bndR_ok (a : α) (e : En) (f : α → M β) : bndR (some (.ok a e)) f = f a e := (rfl)
@[simp] theorem bndR_none (f : α → M β) : bndR none f = none := (rfl)
@[simp] theorem run_pure (a : α) (e : En) : (pure a : M α) e = some (.ok a e) := (rfl)
@[simp] theorem run_bind (m : M α) (f : α → M β) (e : En) : (m >>= f) e = bndR (m e) f := (rfl)
@[simp] theorem run_lift_some (a : α) (e : En) : liftO (some a) e = some (.ok a e) := (rfl)
@[simp] theorem run_ite (c : Prop) [Decidable c] (x y : M α) (e : En) : (if c then x else y) e = if c then x e else y e := by split <;> rfl
@[simp] theorem ite_ok (c : Prop) [Decidable c] (x y : α) (e : En) : (if c then some (Rs.ok x e) else some (Rs.ok y e)) = some (Rs.ok (if c then x else y) e) := by split <;> rfl
@[simp] theorem ite_rv (c : Prop) [Decidable c] (x y : PyData) (b : Bool) : (if c then (⟨x, b⟩ : RV) else ⟨y, b⟩) = ⟨if c then x else y, b⟩ := by split <;> rfl
@[simp] theorem ite_bl (c : Prop) [Decidable c] (x y : Bool) : (if c then PyData.bool x else PyData.bool y) = .bool (if c then x else y) := by split <;> rfl
@[simp] theorem run_der_vl (d : PyData) (e : En) : der (.vl d) e = some (.ok d e) := (rfl)
@[simp] theorem run_der_sl (i : Nat) (e : En) : der (.sl i) e = (slotD e i).map fun d => .ok d e := (rfl)
@[simp] theorem run_readV (i : Nat) (e : En) : readV i e = (match e[i]? with | some (.vl d) => some (.ok ⟨d, false⟩ e) | some (.ow false ds) => some (.ok ⟨.list ds, false⟩ (e.set i (.vl (.list ds)))) | _ => none) := (rfl)
@[simp] theorem run_readO (i : Nat) (e : En) : readO i e = (match e[i]? with | some (.vl d) => some (.ok (.vl d) e) | some (.ow _ _) => some (.ok (.sl i) e) | _ => none) := (rfl)
@[simp] theorem run_readR (i : Nat) (e : En) : readR i e = (match e[i]? with | some (.vl d) => some (.ok ⟨d, false⟩ e) | some (.ow false ds) => some (.ok ⟨.list ds, true⟩ (e.set i .un)) | _ => none) := (rfl)
@[simp] theorem run_store (i : Nat) (r : RV) (e : En) : store i r e = if i < e.length then some (.ok () (e.set i (.of r))) else none := (rfl)
@[simp] theorem run_own (i : Nat) (e : En) : ownM i e = (match e[i]? with | some (.ow _ _) => some (.ok () e) | _ => none) := (rfl)
@[simp] theorem run_write (i : Nat) (f : List PyData → Option (List PyData)) (e : En) : writeM i f e = (match e[i]? with | some (.ow b ds) => (f ds).map fun ds' => .ok () (e.set i (.ow b ds')) | _ => none) := (rfl)
@[simp] theorem run_un (i : Nat) (e : En) : unM i e = if i < e.length then some (.ok () (e.set i .un)) else none := (rfl)
@[simp] theorem most0 : (0 ≤ most) ↔ True := by decide
@[simp] theorem most1 : (1 ≤ most) ↔ True := by decide
@[simp] theorem most2 : (2 ≤ most) ↔ True := by decide
@[simp] theorem most3 : (3 ≤ most) ↔ True := by decide
@[simp] theorem of_vl (d : PyData) : Sl.of ⟨d, false⟩ = .vl d := by cases d <;> rfl
@[simp] theorem of_ow (ds : List PyData) : Sl.of ⟨.list ds, true⟩ = .ow false ds := (rfl)
end
/-- the mirror returns r -/
@[simp] def retOf : Option (Rs Fl) → Option RV
  | some (.ok (.rt r) _) => some r
  | some (.ok .nx _) => some ⟨.none, false⟩
  | _ => none
@[simp] abbrev Ret (m : M Fl) (e : En) (r : RV) : Prop := retOf (m e) = some r
theorem runM_eq {n np : Nat} {m : M Fl} {ds : List PyData} {r : RV} {e env : En} (hl : ds.length = np) (he : ds.map Sl.vl ++ List.replicate (n - np) Sl.un = env) (h : Ret m env r) : runM n np m ds e = some (.ok r e) := by
  subst he
  unfold Ret at h
  unfold runM
  rw [if_pos hl]
  cases q : m (ds.map Sl.vl ++ List.replicate (n - np) Sl.un) with
  | none => rw [q] at h; cases h
  | some x =>
    rw [q] at h
    cases x with
    | ex x e' => cases h
    | ok f e' => cases f <;> cases h <;> rfl
/-- a comprehension that leaves the state as it is -/
theorem lcGo_pure {own : List Nat} {step : PyData → M (Option PyData)} {e : En} {g : PyData → Option PyData} : ∀ {items acc : List PyData}, (∀ d ∈ items, ∃ e', step d e = some (.ok (g d) e') ∧ wipeE e' own = e) → acc.length + items.length ≤ most →
    lcGo own step items e acc = some (acc ++ items.filterMap g, e)
  | [], acc, _, _ => by simp [lcGo]
  | d :: ds, acc, h, hl => by
    obtain ⟨e', h1, h2⟩ := h d List.mem_cons_self
    unfold lcGo
    rw [h1]
    have hl' : acc.length + (ds.length + 1) ≤ most := hl
    cases q : g d with
    | none =>
      simp only [List.filterMap_cons, q, h2]
      exact lcGo_pure (fun x hx => h x (List.mem_cons_of_mem _ hx)) (by omega)
    | some y =>
      simp only [List.filterMap_cons, q, h2]
      rw [if_pos (by omega), lcGo_pure (fun x hx => h x (List.mem_cons_of_mem _ hx)) (by rw [List.length_append]; simp only [List.length_singleton]; omega)]
      simp
theorem lc_run {own : List Nat} {mi : M (List PyData)} {step : PyData → M (Option PyData)} {e e1 : En} {items : List PyData} (g : PyData → Option PyData) (h0 : mi e = some (.ok items e1)) (h : ∀ d ∈ items, ∃ e', step d (wipeE e1 own) = some (.ok (g d) e') ∧ wipeE e' own = wipeE e1 own) (hl : items.length ≤ most) (hb : backE e1 (wipeE e1 own) own = e1) :
    lcM own mi step e = some (.ok ⟨.list (items.filterMap g), true⟩ e1) := by
  simp only [lcM, run_bind, h0, bndR_ok]
  unfold lcRun
  rw [lcGo_pure h (by simpa using hl)]
  simp [hb]
/-- over what a typed list tells -/
theorem lc_typed {γ δ : Type} {own : List Nat} {mi : M (List PyData)} {step : PyData → M (Option PyData)} {e e1 : En} {xs : List γ} (enc : γ → PyData) (dec : δ → PyData) (g : γ → Option δ) (h0 : mi e = some (.ok (xs.map enc) e1)) (h : ∀ x ∈ xs, ∃ e', step (enc x) (wipeE e1 own) = some (.ok ((g x).map dec) e') ∧ wipeE e' own = wipeE e1 own) (hl : xs.length ≤ most) (hb : backE e1 (wipeE e1 own) own = e1) :
    lcM own mi step e = some (.ok ⟨.list ((xs.filterMap g).map dec), true⟩ e1) := by
  simp only [lcM, run_bind, h0, bndR_ok]
  unfold lcRun
  have go : ∀ (ys : List γ) (acc : List PyData), (∀ x ∈ ys, x ∈ xs) → acc.length + ys.length ≤ most → lcGo own step (ys.map enc) (wipeE e1 own) acc = some (acc ++ (ys.filterMap g).map dec, wipeE e1 own) := by
    intro ys
    induction ys with
    | nil => intro acc _ _; simp [lcGo]
    | cons y ys ih =>
      intro acc hy hz
      obtain ⟨e', h1, h2⟩ := h y (hy y List.mem_cons_self)
      rw [List.map_cons]
      unfold lcGo
      rw [h1]
      have hz' : acc.length + (ys.length + 1) ≤ most := hz
      cases q : g y with
      | none =>
        simp only [Option.map_none, List.filterMap_cons, q, h2]
        exact ih acc (fun x hx => hy x (List.mem_cons_of_mem _ hx)) (by omega)
      | some z =>
        simp only [Option.map_some, List.filterMap_cons, q, h2]
        rw [if_pos (by omega), ih _ (fun x hx => hy x (List.mem_cons_of_mem _ hx)) (by rw [List.length_append]; simp only [List.length_singleton]; omega)]
        simp
  rw [go xs [] (fun _ z => z) (by simpa using hl)]
  simp [hb]
@[simp] theorem wipeE_nil (e : En) : wipeE e [] = e := (rfl)
@[simp] theorem wipeE_cons (e : En) (v : Nat) (vs : List Nat) : wipeE e (v :: vs) = (wipeE e vs).set v .un := (rfl)
@[simp] theorem backE_nil (e e1 : En) : backE e e1 [] = e1 := (rfl)
@[simp] theorem backE_cons (e e1 : En) (v : Nat) (vs : List Nat) : backE e e1 (v :: vs) = (backE e e1 vs).set v (e.getD v .un) := (rfl)
theorem lc_t {γ δ : Type} {own : List Nat} {mi : M (List PyData)} {step : PyData → M (Option PyData)} {e : En} {xs : List γ} (enc : γ → PyData) (dec : δ → PyData) (g : γ → Option δ) (h0 : mi e = some (.ok (xs.map enc) e)) (h : ∀ x ∈ xs, ∃ e', step (enc x) (wipeE e own) = some (.ok ((g x).map dec) e') ∧ wipeE e' own = wipeE e own) (hl : xs.length ≤ most) (hb : backE e (wipeE e own) own = e) :
    lcM own mi step e = some (.ok ⟨.list ((xs.filterMap g).map dec), true⟩ e) := lc_typed enc dec g h0 h hl hb
/-! data of typed things -/
abbrev nD (k : Nat) : PyData := .int k
@[simp] theorem idx_tup {α : Type} (f : α → PyData) (xs : List α) (i : Int) : idxD (.tuple (xs.map f)) (.int i) = (atI xs i).map fun x => ⟨f x, false⟩ := by
  show (atI (xs.map f) i).map (fun d => (⟨d, false⟩ : RV)) = _
  unfold atI
  rw [List.length_map]
  cases ixN xs.length i with
  | none => rfl
  | some j => simp [Function.comp_def]
@[simp] theorem idx_lst {α : Type} (f : α → PyData) (xs : List α) (i : Int) : idxD (.list (xs.map f)) (.int i) = (atI xs i).map fun x => ⟨f x, false⟩ := idx_tup f xs i
theorem atI_nat {α : Type} (xs : List α) (i : Nat) (h : i < xs.length) : atI xs (i : Int) = some xs[i] := by
  unfold atI ixN
  rw [if_pos (by omega), if_pos (by omega)]
  simp [h]
theorem atI_rng {n i : Nat} (h : i < n) : atI (List.range n) (i : Int) = some i := by
  rw [atI_nat _ _ (by simpa using h)]
  simp
theorem atI_range {α : Type} (f : Nat → α) (n i : Nat) (h : i < n) : atI ((List.range n).map f) (i : Int) = some (f i) := by
  rw [atI_nat _ _ (by simpa using h)]
  simp
/-! statements one behind another -/
theorem run_then {m ms : M Fl} {e e1 : En} (h : m e = some (.ok .nx e1)) : thenM m ms e = ms e1 := by
  rw [thenM, run_bind, h, bndR_ok]
theorem run_thenR {m ms : M Fl} {e e1 : En} {r : RV} (h : m e = some (.ok (.rt r) e1)) : thenM m ms e = some (.ok (.rt r) e1) := by
  rw [thenM, run_bind, h, bndR_ok]
  exact (rfl)
theorem run_ret {m : M RV} {e e1 : En} {r : RV} (h : m e = some (.ok r e1)) : retM m e = some (.ok (.rt r) e1) := by
  rw [retM, run_bind, h, bndR_ok]
  exact (rfl)
theorem run_set {m : M RV} {i : Nat} {e e1 e2 : En} {r : RV} (h : m e = some (.ok r e1)) (hi : i < e1.length) (he : e1.set i (.of r) = e2) : setM i m e = some (.ok .nx e2) := by
  rw [setM, run_bind, h, bndR_ok, run_bind, run_store, if_pos hi, bndR_ok, he]
  exact (rfl)
theorem run_if {c : M Bool} {a b : M Fl} {e e1 : En} {t : Bool} (h : c e = some (.ok t e1)) : ifM c a b e = if t = true then a e1 else b e1 := by
  rw [ifM, run_bind, h, bndR_ok, run_ite]
theorem ret_of {m : M Fl} {e e1 : En} {r : RV} (h : m e = some (.ok (.rt r) e1)) : Ret m e r := by
  unfold Ret
  rw [h]
  exact (rfl)
end Ev

set_option Elab.async false
set_option linter.all false
set_option maxRecDepth 100000
set_option maxHeartbeats 4000000
/-! EvZ: rows of small numbers as data. -/
namespace Ev
open PySem PySem.Spec L2
abbrev mD (m : List Nat) : PyData := .tuple (m.map nD)
abbrev msD (ms : List (List Nat)) : PyData := .tuple (ms.map mD)
abbrev lnD (m : List Nat) : PyData := .list (m.map nD)
abbrev lmD (ms : List (List Nat)) : PyData := .list (ms.map mD)
abbrev llD (ms : List (List Nat)) : PyData := .list (ms.map lnD)
theorem big {α : Type} {l : List α} (h : l.length ≤ 100) : l.length ≤ most := Nat.le_trans h (by decide)
@[simp] theorem boolsOf_comp {α : Type} (f : α → Bool) (l : List α) : boolsOf (l.map fun x => PyData.bool (f x)) = some (l.map f) := by
  rw [show (l.map fun x => PyData.bool (f x)) = (l.map f).map PyData.bool by simp]
  exact boolsOf_map _
@[simp] theorem filterMap_if {α β : Type} (p : α → Prop) [DecidablePred p] (f : α → β) (l : List α) : l.filterMap (fun x => if p x then some (f x) else none) = (l.filter fun x => decide (p x)).map f := by
  induction l with
  | nil => rfl
  | cons a l ih => by_cases h : p a <;> simp [List.filterMap_cons, List.filter_cons, h, ih]
@[simp] theorem filterMap_ifn {α β : Type} (p : α → Prop) [DecidablePred p] (f : α → β) (l : List α) : l.filterMap (fun x => if p x then none else some (f x)) = (l.filter fun x => !decide (p x)).map f := by
  induction l with
  | nil => rfl
  | cons a l ih => by_cases h : p a <;> simp [List.filterMap_cons, List.filter_cons, h, ih]
@[simp] theorem mapIdx_en {α : Type} (f : α → PyData) (xs : List α) : (xs.map f).mapIdx (fun i d => PyData.tuple [.int (i : Nat), d]) = xs.zipIdx.map fun p => .tuple [nD p.2, f p.1] := by
  rw [List.mapIdx_eq_zipIdx_map, List.zipIdx_map, List.map_map]
  rfl
theorem canLay_map {α : Type} (f : α → PyData) (h : ∀ x, (f x).canLay0 = true) : ∀ xs : List α, PyData.canLayAll0 (xs.map f) = true
  | [] => rfl
  | x :: xs => by simp [PyData.canLayAll0, h x, canLay_map f h xs]
theorem depth_map {α : Type} (f : α → PyData) (k : Nat) (h : ∀ x, (f x).depth ≤ k) : ∀ xs : List α, PyData.depthAll (xs.map f) ≤ k
  | [] => Nat.zero_le _
  | x :: xs => by
    simp only [List.map_cons, PyData.depthAll]
    exact Nat.max_le.mpr ⟨h x, depth_map f k h xs⟩
@[simp] theorem shaped_nD (k : Nat) : SeqAt.shaped (nD k) = true := rfl
@[simp] theorem shaped_int (k : Int) : SeqAt.shaped (.int k) = true := rfl
@[simp] theorem depth_nD (k : Nat) : (nD k).depth = 0 := rfl
theorem depth_mD (m : List Nat) : (mD m).depth ≤ 1 := by
  have := depth_map nD 0 (fun _ => Nat.le_refl _) m
  simp only [PyData.depth]
  omega
theorem depth_lnD (m : List Nat) : (lnD m).depth ≤ 1 := by
  have := depth_map nD 0 (fun _ => Nat.le_refl _) m
  simp only [PyData.depth]
  omega
theorem depth_lmD (m : List (List Nat)) : (lmD m).depth ≤ 2 := by
  have := depth_map mD 1 depth_mD m
  simp only [PyData.depth]
  omega
theorem lay_mD (m : List Nat) : (mD m).canLay0 = true := canLay_map nD (fun _ => rfl) m
@[simp] theorem shaped_mD (m : List Nat) : SeqAt.shaped (mD m) = true := by
  unfold SeqAt.shaped
  rw [Bool.and_eq_true]
  exact ⟨lay_mD m, decide_eq_true (Nat.le_trans (depth_mD m) (by decide))⟩
@[simp] theorem shaped_lnD (m : List Nat) : SeqAt.shaped (lnD m) = true := by
  unfold SeqAt.shaped
  rw [Bool.and_eq_true]
  exact ⟨canLay_map nD (fun _ => rfl) m, decide_eq_true (Nat.le_trans (depth_lnD m) (by decide))⟩
@[simp] theorem shaped_lmD (m : List (List Nat)) : SeqAt.shaped (lmD m) = true := by
  unfold SeqAt.shaped
  rw [Bool.and_eq_true]
  exact ⟨canLay_map mD lay_mD m, decide_eq_true (Nat.le_trans (depth_lmD m) (by decide))⟩
@[simp] theorem shaped_t0 : SeqAt.shaped (.tuple []) = true := rfl
@[simp] theorem shaped_l0 : SeqAt.shaped (.list []) = true := rfl
@[simp] theorem eqv_nD (a b : Nat) : PyData.eqv (nD a) (nD b) = decide (a = b) := by
  simp only [PyData.eqv]
  by_cases h : a = b
  · subst h; simp
  · have : (a : Int) ≠ (b : Int) := by omega
    simp [h, this]
theorem eqvAll_nD : ∀ a b : List Nat, PyData.eqvAll (a.map nD) (b.map nD) = decide (a = b)
  | [], [] => rfl
  | [], _ :: _ => rfl
  | _ :: _, [] => rfl
  | x :: a, y :: b => by
    simp only [List.map_cons, PyData.eqvAll, eqvAll_nD a b]
    rw [eqv_nD]
    by_cases h : x = y <;> by_cases h2 : a = b <;> simp [h, h2]
@[simp] theorem eqv_mD (a b : List Nat) : PyData.eqv (mD a) (mD b) = decide (a = b) := by
  simp only [PyData.eqv]
  exact eqvAll_nD a b
@[simp] theorem eqv_lnD (a b : List Nat) : PyData.eqv (lnD a) (lnD b) = decide (a = b) := by
  simp only [PyData.eqv]
  exact eqvAll_nD a b
@[simp] theorem in_mD (s : Nat) (m : List Nat) : inD (nD s) (mD m) = some (decide (s ∈ m)) := by
  simp only [inD, shaped_nD, shaped_mD, and_self, if_true, Option.some.injEq]
  induction m with
  | nil => rfl
  | cons x m ih =>
    rw [List.map_cons, List.any_cons, ih, eqv_nD]
    by_cases h : x = s
    · subst h; simp
    · have : ¬ s = x := fun z => h z.symm
      simp [h, this]
@[simp] theorem in_lnD (s : Nat) (m : List Nat) : inD (nD s) (lnD m) = some (decide (s ∈ m)) := by
  have := in_mD s m
  simp only [inD, shaped_nD, shaped_mD, shaped_lnD, and_self, if_true] at this ⊢
  exact this
@[simp] theorem in_lmD (s : List Nat) (m : List (List Nat)) : inD (mD s) (lmD m) = some (decide (s ∈ m)) := by
  simp only [inD, shaped_mD, shaped_lmD, and_self, if_true, Option.some.injEq]
  induction m with
  | nil => rfl
  | cons x m ih =>
    rw [List.map_cons, List.any_cons, ih, eqv_mD]
    by_cases h : x = s
    · subst h; simp
    · have : ¬ s = x := fun z => h z.symm
      simp [h, this]
@[simp] theorem eq_mD (a b : List Nat) : eqD (mD a) (mD b) = some (decide (a = b)) := by simp [eqD]
@[simp] theorem eq_mD0 (a : List Nat) : eqD (mD a) (.tuple []) = some (decide (a = [])) := eq_mD a []
@[simp] theorem eq_nD (a b : Nat) : eqD (nD a) (nD b) = some (decide (a = b)) := by simp [eqD]
theorem eqD_str (a b : Str) : eqD (.str a) (.str b) = some (decide (a = b)) := by
  unfold eqD
  split
  · simp only [PyData.eqv, Option.some.injEq]
    by_cases h : a = b <;> simp [h]
  · rfl
theorem rng_map (n : Nat) : rngI 0 n = (List.range n).map nD := by
  unfold rngI
  refine List.map_congr_left fun k _ => ?_
  simp
theorem rngD_nat {n : Nat} (h : n ≤ 100) : rngD [nD n] = some ((List.range n).map nD) := by
  show (if -1000000 < (n : Int) ∧ (n : Int) < 1000000 then some (rngI 0 (n : Int).toNat) else none) = _
  rw [if_pos (by omega), Int.toNat_natCast, rng_map]
/-- for, by its items -/
theorem run_for {mi : M (List PyData)} {step : PyData → M Fl} {e e1 : En} {items : List PyData} {r : Option (Rs Fl)} (h0 : mi e = some (.ok items e1)) (h : forGo step items e1 = r) : Ev.forM mi step e = r := by
  unfold Ev.forM
  rw [run_bind, h0, bndR_ok, h]
@[simp] theorem eq_int (a b : Int) : eqD (.int a) (.int b) = some (decide (a = b)) := by
  simp only [eqD, shaped_int, and_self, if_true, PyData.eqv, Option.some.injEq]
  by_cases h : a = b <;> simp [h]
/-! loops over typed rows -/
theorem for_fold {γ S : Type} {step : PyData → M Fl} (enc : γ → PyData) (env : S → En) (f : S → γ → S) (I : S → List γ → Prop) : ∀ (xs : List γ) (s : S), I s xs → (∀ x xs s, I s (x :: xs) → step (enc x) (env s) = some (.ok .nx (env (f s x))) ∧ I (f s x) xs) → forGo step (xs.map enc) (env s) = some (.ok .nx (env (xs.foldl f s))) ∧ I (xs.foldl f s) []
  | [], s, h, _ => ⟨rfl, h⟩
  | x :: xs, s, h, k => by
    obtain ⟨h1, h2⟩ := k x xs s h
    obtain ⟨h3, h4⟩ := for_fold enc env f I xs (f s x) h2 k
    refine ⟨?_, h4⟩
    rw [List.map_cons]
    unfold forGo
    rw [run_bind, h1, bndR_ok]
    exact h3
theorem for_find {γ S : Type} {step : PyData → M Fl} (enc : γ → PyData) (env : S → En) (g : γ → Option RV) : ∀ (xs : List γ) (s : S), (∀ x ∈ xs, ∀ s, ∃ s', step (enc x) (env s) = some (.ok (match g x with | some r => .rt r | none => .nx) (env s'))) → ∃ s', forGo step (xs.map enc) (env s) = some (.ok (match xs.findSome? g with | some r => .rt r | none => .nx) (env s'))
  | [], s, _ => ⟨s, rfl⟩
  | x :: xs, s, k => by
    obtain ⟨s1, h1⟩ := k x List.mem_cons_self s
    rw [List.map_cons]
    unfold forGo
    rw [run_bind, h1, bndR_ok, List.findSome?_cons]
    cases g x with
    | some r => exact ⟨s1, rfl⟩
    | none =>
      obtain ⟨s2, h2⟩ := for_find enc env g xs s1 fun y hy => k y (List.mem_cons_of_mem _ hy)
      exact ⟨s2, h2⟩
end Ev
namespace Ev
open PySem PySem.Spec L2
/-! order of rows -/
def ltL : List Nat → List Nat → Bool
  | [], [] => false
  | [], _ :: _ => true
  | _ :: _, [] => false
  | x :: xs, y :: ys => if x = y then ltL xs ys else decide (x < y)
theorem dataLt_nD (x y : Nat) : PySem.W.dataLt (nD x) (nD y) = decide (x < y) := by
  rw [PySem.W.dataLt_int]
  simp
theorem toks_lt : ∀ a b : List Nat, PyProof.Rows.lexLt PyProof.Rows.itemOrd (PySem.W.keyToksAll (a.map nD)) (PySem.W.keyToksAll (b.map nD)) = ltL a b
  | [], [] => by decide
  | [], y :: b => by
    simp only [List.map_nil, List.map_cons, PySem.W.keyToksAll]
    rfl
  | x :: a, [] => by
    simp only [List.map_nil, List.map_cons, PySem.W.keyToksAll]
    rfl
  | x :: a, y :: b => by
    rw [List.map_cons, List.map_cons]
    by_cases h : x = y
    · subst h
      rw [PySem.W.dataLt_all_yes (by rfl) (by simp), toks_lt a b]
      simp [ltL]
    · rw [PySem.W.dataLt_all_no (by rfl) (by rw [eqv_nD]; simp [h]), dataLt_nD]
      simp [ltL, h]
@[simp] theorem dataLt_mD (a b : List Nat) : PySem.W.dataLt (mD a) (mD b) = ltL a b := by
  rw [PySem.W.dataLt_tuple, toks_lt]
theorem alike_mD : ∀ a b : List Nat, PySem.W.alikeAll (a.map nD) (b.map nD) = true
  | [], _ => rfl
  | _ :: _, [] => rfl
  | x :: a, y :: b => by
    simp only [List.map_cons, PySem.W.alikeAll, alike_mD a b, Bool.and_true]
    rfl
theorem alikeL_mD (ms : List (List Nat)) : alikeL (ms.map mD) = true := by
  unfold alikeL
  simp only [List.all_eq_true, List.mem_map]
  rintro d ⟨a, _, rfl⟩ d' ⟨b, _, rfl⟩
  simp only [PySem.W.alike]
  exact alike_mD a b
theorem depthAll_mD (ms : List (List Nat)) : PyData.depthAll (ms.map mD) ≤ 60 := Nat.le_trans (depth_map mD 1 depth_mD ms) (by decide)
def minL (m : List Nat) (ms : List (List Nat)) : List Nat := ms.foldl (fun a y => if ltL y a then y else a) m
theorem minD_mD : ∀ (ms : List (List Nat)) (m : List Nat), PySem.W.minD (mD m) (ms.map mD) = mD (minL m ms)
  | [], _ => rfl
  | y :: ys, m => by
    have ih := minD_mD ys
    unfold PySem.W.minD minL at *
    rw [List.map_cons, List.foldl_cons, List.foldl_cons, dataLt_mD]
    split
    · exact ih y
    · exact ih m
theorem notNone_mD (ms : List (List Nat)) : (ms.map mD).all notNone = true := by
  simp only [List.all_eq_true, List.mem_map]
  rintro d ⟨a, _, rfl⟩
  rfl
@[simp] theorem minG_mD (m : List Nat) (ms : List (List Nat)) : minG [lmD (m :: ms)] = some ⟨mD (minL m ms), false⟩ := by
  have h1 : minF [lmD (m :: ms)] = none := rfl
  have h2 := alikeL_mD (m :: ms)
  have h3 := notNone_mD (m :: ms)
  have h4 := depthAll_mD (m :: ms)
  rw [List.map_cons] at h2 h3 h4
  unfold minG orF
  rw [h1]
  show minA [.list (mD m :: ms.map mD)] = _
  show (if alikeL (mD m :: ms.map mD) = true ∧ (mD m :: ms.map mD).all notNone = true ∧ PyData.depthAll (mD m :: ms.map mD) ≤ 60 then lit (PySem.W.minD (mD m) (ms.map mD)) else none) = _
  rw [if_pos ⟨h2, h3, h4⟩, minD_mD]
/-! ints of small rows -/
@[simp] theorem intsOf_nD (m : List Nat) : intsOf (m.map nD) = some (m.map Int.ofNat) := by
  rw [show m.map nD = (m.map Int.ofNat).map PyData.int by simp]
  exact intsOf_map _
end Ev

set_option Elab.async false
set_option linter.all false
set_option maxRecDepth 100000
set_option maxHeartbeats 4000000
/-! EvW: runs that change the state as they go, by what stays true. -/
namespace Ev
open PySem PySem.Spec L2
theorem lcGo_inv {γ S : Type} {own : List Nat} {step : PyData → M (Option PyData)} (enc : γ → PyData) (envf : S → En) (Inv : S → List γ → List PyData → Prop)
    (h : ∀ x rem s acc, Inv s (x :: rem) acc → ∃ o s' e', step (enc x) (wipeE (envf s) own) = some (.ok o e') ∧ wipeE e' own = wipeE (envf s') own ∧ Inv s' rem (acc ++ o.toList)) :
    ∀ (xs : List γ) (s : S) (acc : List PyData), Inv s xs acc → acc.length + xs.length ≤ most → ∃ s' ds, Inv s' [] ds ∧ lcGo own step (xs.map enc) (wipeE (envf s) own) acc = some (ds, wipeE (envf s') own)
  | [], s, acc, hi, _ => ⟨s, acc, hi, rfl⟩
  | x :: xs, s, acc, hi, hl => by
    obtain ⟨o, s', e', h1, h2, h3⟩ := h x xs s acc hi
    have hl' : acc.length + (xs.length + 1) ≤ most := hl
    rw [List.map_cons]
    unfold lcGo
    rw [h1]
    cases o with
    | none =>
      simp only [h2]
      exact lcGo_inv enc envf Inv h xs s' acc (by simpa using h3) (by omega)
    | some y =>
      simp only [h2]
      rw [if_pos (by omega)]
      exact lcGo_inv enc envf Inv h xs s' (acc ++ [y]) h3 (by rw [List.length_append, List.length_singleton]; omega)
theorem lc_inv {γ S : Type} {own : List Nat} {mi : M (List PyData)} {step : PyData → M (Option PyData)} {e : En} (enc : γ → PyData) (envf : S → En) (Inv : S → List γ → List PyData → Prop) (xs : List γ) (s0 : S)
    (h0 : mi e = some (.ok (xs.map enc) (envf s0))) (hI : Inv s0 xs [])
    (h : ∀ x rem s acc, Inv s (x :: rem) acc → ∃ o s' e', step (enc x) (wipeE (envf s) own) = some (.ok o e') ∧ wipeE e' own = wipeE (envf s') own ∧ Inv s' rem (acc ++ o.toList))
    (hl : xs.length ≤ most) (hb : ∀ s, backE (envf s0) (wipeE (envf s) own) own = envf s) : ∃ s ds, Inv s [] ds ∧ lcM own mi step e = some (.ok ⟨.list ds, true⟩ (envf s)) := by
  obtain ⟨s, ds, h1, h2⟩ := lcGo_inv enc envf Inv h xs s0 [] hI (by simpa using hl)
  refine ⟨s, ds, h1, ?_⟩
  simp only [lcM, run_bind, h0, bndR_ok]
  unfold lcRun
  rw [h2]
  simp [hb]
theorem for_inv {γ S : Type} {step : PyData → M Fl} (enc : γ → PyData) (env : S → En) (Inv : S → List γ → Prop) (k : ∀ x rem s, Inv s (x :: rem) → ∃ s', step (enc x) (env s) = some (.ok .nx (env s')) ∧ Inv s' rem) :
    ∀ (xs : List γ) (s : S), Inv s xs → ∃ s', forGo step (xs.map enc) (env s) = some (.ok .nx (env s')) ∧ Inv s' []
  | [], s, h => ⟨s, rfl, h⟩
  | x :: xs, s, h => by
    obtain ⟨s1, h1, h2⟩ := k x xs s h
    obtain ⟨s2, h3, h4⟩ := for_inv enc env Inv k xs s1 h2
    refine ⟨s2, ?_, h4⟩
    rw [List.map_cons]
    unfold forGo
    rw [run_bind, h1, bndR_ok]
    exact h3
theorem nfor_inv {γ S : Type} {step : PyData → List (List PyData) → M (List (List PyData))} (enc : γ → PyData) (env : S → En) (rw_ : S → List (List PyData)) (Inv : S → List γ → Prop) (k : ∀ x rem s, Inv s (x :: rem) → ∃ s', step (enc x) (rw_ s) (env s) = some (.ok (rw_ s') (env s')) ∧ Inv s' rem) :
    ∀ (xs : List γ) (s : S), Inv s xs → ∃ s', nforGo step (xs.map enc) (rw_ s) (env s) = some (.ok (rw_ s') (env s')) ∧ Inv s' []
  | [], s, h => ⟨s, rfl, h⟩
  | x :: xs, s, h => by
    obtain ⟨s1, h1, h2⟩ := k x xs s h
    obtain ⟨s2, h3, h4⟩ := nfor_inv enc env rw_ Inv k xs s1 h2
    refine ⟨s2, ?_, h4⟩
    rw [List.map_cons]
    unfold nforGo
    rw [run_bind, h1, bndR_ok]
    exact h3
theorem run_keep {α : Type} {i : Nat} {m : M α} {e e1 : En} {a : α} (h : m e = some (.ok a e1)) (hu : isUn e1[i]? = true) : keepM i m e = some (.ok a e1) := by
  unfold keepM
  rw [h]
  simp only [hu, if_true]
theorem run_noX {α : Type} {m : M α} {e e1 : En} {a : α} (h : m e = some (.ok a e1)) : noX m e = some (.ok a e1) := by
  unfold noX
  rw [h]
theorem run_nthen {f g : List (List PyData) → M (List (List PyData))} {rows r1 : List (List PyData)} {e e1 : En} (h : f rows e = some (.ok r1 e1)) : nthenM f g rows e = g r1 e1 := by
  rw [nthenM, run_bind, h, bndR_ok]
theorem run_nif {i : Nat} {mc : M Bool} {f g : List (List PyData) → M (List (List PyData))} {rows : List (List PyData)} {e e1 : En} {t : Bool} (h : mc e = some (.ok t e1)) (hu : isUn e1[i]? = true) : nifM i mc f g rows e = if t = true then f rows e1 else g rows e1 := by
  rw [nifM, run_bind, run_keep h hu, bndR_ok, run_ite]
theorem run_nset {i : Nat} {mv : M RV} {mj mk : M OV} {rows rows2 : List (List PyData)} {e e1 e2 e3 : En} {r : RV} {o o2 : OV} {j k : PyData} {x : Nat} (hv : mv e = some (.ok r e1)) (h1 : isUn e1[i]? = true) (hj : mj e1 = some (.ok o e2)) (h2 : isUn e2[i]? = true) (hd : der o e2 = some (.ok j e2)) (hx : rowAt rows j = some x)
    (hk : mk e2 = some (.ok o2 e3)) (h3 : isUn e3[i]? = true) (hd2 : der o2 e3 = some (.ok k e3)) (hp : putAt rows x k r.d = some rows2) : nsetM i mv mj mk rows e = some (.ok rows2 e3) := by
  rw [nsetM, run_bind, run_keep hv h1, bndR_ok, run_bind, run_keep hj h2, bndR_ok, run_bind, hd, bndR_ok, run_bind, hx, run_lift_some, bndR_ok, run_bind, run_keep hk h3, bndR_ok, run_bind, hd2, bndR_ok, hp, run_lift_some]
theorem run_nfor {i : Nat} {mi : M (List PyData)} {bt : PyData → M Unit} {f : List (List PyData) → M (List (List PyData))} {rows : List (List PyData)} {items : List PyData} {e e1 : En} {r : Option (Rs (List (List PyData)))} (h0 : mi e = some (.ok items e1)) (hu : isUn e1[i]? = true) (h : nforGo (fun d rows => do keepM i (bt d); f rows) items rows e1 = r) : nforM i mi bt f rows e = r := by
  rw [nforM, run_bind, run_keep h0 hu, bndR_ok, h]
end Ev
namespace Ev
open PySem PySem.Spec L2
/-- over a list that stays one's own -/
theorem lcK_t {γ δ : Type} {k : Nat} {own : List Nat} {step : PyData → M (Option PyData)} {e : En} {xs : List γ} {b : Bool} (enc : γ → PyData) (dec : δ → PyData) (g : γ → Option δ) (hk : e[k]? = some (.ow b (xs.map enc)))
    (h : ∀ x ∈ xs, ∃ e', step (enc x) (wipeE (e.set k .un) own) = some (.ok ((g x).map dec) e') ∧ wipeE e' own = wipeE (e.set k .un) own) (hl : xs.length ≤ most) (hb : backE (e.set k .un) (wipeE (e.set k .un) own) own = e.set k .un) (hu : isUn (e.set k .un)[k]? = true) (hs : (e.set k .un).set k (.ow b (xs.map enc)) = e) :
    lcK k own step e = some (.ok ⟨.list ((xs.filterMap g).map dec), true⟩ e) := by
  have go := lcGo_inv (step := step) (own := own) enc (fun _ : Unit => e.set k .un) (fun _ rem acc => acc ++ (rem.filterMap g).map dec = (xs.filterMap g).map dec ∧ ∀ x ∈ rem, x ∈ xs) (fun x rem s acc ⟨h1, h2⟩ => by
    obtain ⟨e', q1, q2⟩ := h x (h2 x List.mem_cons_self)
    refine ⟨(g x).map dec, (), e', q1, q2, ?_, fun y hy => h2 y (List.mem_cons_of_mem _ hy)⟩
    rw [← h1, List.filterMap_cons]
    cases g x <;> simp) xs () [] ⟨by simp, fun _ h => h⟩ (by simpa using hl)
  obtain ⟨_, ds, ⟨h1, _⟩, h2⟩ := go
  have h1 : ds = (xs.filterMap g).map dec := by simpa using h1
  unfold lcK
  rw [hk]
  simp only [h2, Option.bind_some, hb, hu, if_true, hs, h1]
end Ev

set_option Elab.async false
set_option linter.all false
set_option maxRecDepth 100000
set_option maxHeartbeats 4000000
namespace Lw
open PySem PySem.Spec L2 Ev
def ps_is_integer : List Str := ["value"]
def N_is_integer : List Str := ["value"]
def m_is_integer : M Fl := thenM (retM (ofB (Ev.andM (asB (op1 (isiD "int") (readO 0))) (Ev.notM (asB (op1 (isiD "bool") (readO 0))))))) (pure .nx)
def ps_is_position : List Str := ["value", "many"]
def N_is_position : List Str := ["value", "many"]
def m_is_position : M Fl := thenM (retM (ofB (Ev.andM (asB (callM N_is_integer.length ps_is_integer.length m_is_integer (do let d ← valM (readV 0); let ds ← (pure []); pure (d :: ds)))) (asB (op3 (cmpD .le) (cmpD .lt) (toO (pure ⟨.int 0, false⟩)) (readO 0) (readO 1)))))) (pure .nx)
def ps_full_of : List Str := ["states"]
def N_full_of : List Str := ["states", "found", "state", "some"]
def c_full_of_0 : M RV := lcM [3] (seqM (readV 1)) (turnM (nameM 3) (pure true) (op2 addD (readO 3) (toO (tupM (do let d ← valM (readV 2); let ds ← (pure []); pure (d :: ds))))))
def b_full_of_0 : PyData → M Fl := bodyM (nameM 2) (thenM (setM 1 (frzM (op2 addD (readO 1) (toO (c_full_of_0))))) (pure .nx))
def c_full_of_1 : M RV := lcM [3] (seqM (readV 1)) (turnM (nameM 3) (asB (op2 (cmpD .ne) (readO 3) (toO (tupM (pure []))))) (readV 3))
def m_full_of : M Fl := thenM (setM 1 (frzM (lstM (do let d ← valM (tupM (pure [])); let ds ← (pure []); pure (d :: ds))))) (thenM (forM (rng1M (readO 0)) (b_full_of_0)) (thenM (retM (op1L tupleF (toO (op1L sortedF (toO (c_full_of_1)))))) (pure .nx)))
def ps_does_envy : List Str := ["faces", "one", "other"]
def N_does_envy : List Str := ["faces", "one", "other"]
def m_does_envy : M Fl := thenM (retM (op2 (cmpD .gt) (toO (op2 idxD (toO (op2 idxD (readO 0) (readO 1))) (readO 2))) (toO (op2 idxD (toO (op2 idxD (readO 0) (readO 1))) (readO 1))))) (pure .nx)
def ps_fit_of : List Str := ["faces", "message"]
def N_fit_of : List Str := ["faces", "message", "state", "one"]
def c_fit_of_0 : M RV := lcM [3] (seqM (readV 1)) (turnM (nameM 3) (pure true) (callM N_does_envy.length ps_does_envy.length m_does_envy (do let d ← valM (readV 0); let ds ← (do let d ← valM (readV 3); let ds ← (do let d ← valM (readV 2); let ds ← (pure []); pure (d :: ds)); pure (d :: ds)); pure (d :: ds))))
def c_fit_of_1 : M RV := lcM [2] (seqM (readV 1)) (turnM (nameM 2) (Ev.notM (asB (op1L anyF (toO (c_fit_of_0))))) (readV 2))
def m_fit_of : M Fl := thenM (retM (op1L tupleF (toO (c_fit_of_1)))) (pure .nx)
def ps_own_of : List Str := ["faces", "messages"]
def N_own_of : List Str := ["faces", "messages", "fits", "message", "state", "at", "fit"]
def c_own_of_0 : M RV := lcM [3] (seqM (readV 1)) (turnM (nameM 3) (pure true) (callM N_fit_of.length ps_fit_of.length m_fit_of (do let d ← valM (readV 0); let ds ← (do let d ← valM (readV 3); let ds ← (pure []); pure (d :: ds)); pure (d :: ds))))
def c_own_of_1 : M RV := lcM [5, 6] (enumM (readV 2)) (turnM (tupT 2 (consM (nameM 5) (consM (nameM 6) (nilM)))) (asB (op2 (cmpD .isin) (readO 4) (readO 6))) (readV 5))
def c_own_of_2 : M RV := lcM [4] (rng1M (toO (op1L lenF (readO 0)))) (turnM (nameM 4) (pure true) (c_own_of_1))
def m_own_of : M Fl := thenM (setM 2 (frzM (c_own_of_0))) (thenM (retM (c_own_of_2)) (pure .nx))
def ps_first_tells : List Str := ["own"]
def N_first_tells : List Str := ["own", "line", "some", "later", "tells", "at"]
def c_first_tells_0 : M RV := lcM [5] (seqM (readV 2)) (turnM (nameM 5) (asB (op2 (cmpD .notin) (readO 5) (readO 4))) (op2 addD (readO 4) (toO (tupM (do let d ← valM (readV 5); let ds ← (pure []); pure (d :: ds))))))
def b_first_tells_0 : PyData → M Fl := bodyM (nameM 4) (thenM (extM 3 (c_first_tells_0)) (pure .nx))
def b_first_tells_1 : PyData → M Fl := bodyM (nameM 2) (thenM (setM 3 (lstM (pure []))) (thenM (forM (seqM (readV 1)) (b_first_tells_0)) (thenM (setM 1 (readV 3)) (pure .nx))))
def m_first_tells : M Fl := thenM (setM 1 (frzM (lstM (do let d ← valM (tupM (pure [])); let ds ← (pure []); pure (d :: ds))))) (thenM (forM (seqM (readV 0)) (b_first_tells_1)) (thenM (retM (iteM (asB (op2 (cmpD .ne) (readO 1) (toO (lstM (pure []))))) (op1L minG (readO 1)) (pure ⟨.none, false⟩))) (pure .nx)))
def ps_exact_of : List Str := ["faces", "messages"]
def N_exact_of : List Str := ["faces", "messages", "fits", "tells", "reading", "message", "at", "fit"]
def c_exact_of_0 : M RV := lcM [5] (seqM (readV 1)) (turnM (nameM 5) (pure true) (callM N_fit_of.length ps_fit_of.length m_fit_of (do let d ← valM (readV 0); let ds ← (do let d ← valM (readV 5); let ds ← (pure []); pure (d :: ds)); pure (d :: ds))))
def c_exact_of_1 : M RV := lcM [6, 7] (enumM (readV 2)) (turnM (tupT 2 (consM (nameM 6) (consM (nameM 7) (nilM)))) (pure true) (iteM (asB (op2 (cmpD .isin) (readO 6) (readO 3))) (indexM (readO 3) (readO 6)) (op2 idxD (readO 7) (toO (pure ⟨.int 0, false⟩)))))
def m_exact_of : M Fl := thenM (setM 2 (frzM (c_exact_of_0))) (thenM (ifM (asB (op2 (cmpD .isin) (toO (tupM (pure []))) (readO 2))) (thenM (retM (pure ⟨.none, false⟩)) (pure .nx)) (pure .nx)) (thenM (setM 3 (frzM (callM N_first_tells.length ps_first_tells.length m_first_tells (do let d ← valM (callM N_own_of.length ps_own_of.length m_own_of (do let d ← valM (readV 0); let ds ← (do let d ← valM (readV 1); let ds ← (pure []); pure (d :: ds)); pure (d :: ds))); let ds ← (pure []); pure (d :: ds))))) (thenM (ifM (asB (op2 (cmpD .isN) (readO 3) (toO (pure ⟨.none, false⟩)))) (thenM (retM (pure ⟨.none, false⟩)) (pure .nx)) (pure .nx)) (thenM (setM 4 (frzM (c_exact_of_1))) (thenM (retM (tupM (do let d ← valM (readV 3); let ds ← (do let d ← valM (op1L tupleF (readO 4)); let ds ← (pure []); pure (d :: ds)); pure (d :: ds)))) (pure .nx))))))
def ps_first_enviers : List Str := ["faces", "message"]
def N_first_enviers : List Str := ["faces", "message", "state", "one"]
def c_first_enviers_0 : M RV := lcM [3] (seqM (readV 1)) (turnM (nameM 3) (asB (callM N_does_envy.length ps_does_envy.length m_does_envy (do let d ← valM (readV 0); let ds ← (do let d ← valM (readV 3); let ds ← (do let d ← valM (readV 2); let ds ← (pure []); pure (d :: ds)); pure (d :: ds)); pure (d :: ds)))) (readV 3))
def c_first_enviers_1 : M RV := lcM [2] (seqM (readV 1)) (turnM (nameM 2) (pure true) (op2 idxD (toO (c_first_enviers_0)) (toO (pure ⟨.int 0, false⟩))))
def m_first_enviers : M Fl := thenM (retM (op1L tupleF (toO (c_first_enviers_1)))) (pure .nx)
def ps_sets_by_size : List Str := ["states"]
def N_sets_by_size : List Str := ["states", "many", "some"]
def c_sets_by_size_0 : M RV := lcM [2] (seqM (callM N_full_of.length ps_full_of.length m_full_of (do let d ← valM (readV 0); let ds ← (pure []); pure (d :: ds)))) (turnM (nameM 2) (pure true) (tupM (do let d ← valM (op1L lenF (readO 2)); let ds ← (do let d ← valM (readV 2); let ds ← (pure []); pure (d :: ds)); pure (d :: ds))))
def c_sets_by_size_1 : M RV := lcM [1, 2] (seqM (op1L sortedF (toO (c_sets_by_size_0)))) (turnM (tupT 2 (consM (nameM 1) (consM (nameM 2) (nilM)))) (pure true) (readV 2))
def m_sets_by_size : M Fl := thenM (retM (c_sets_by_size_1)) (pure .nx)
def ps_are_short : List Str := ["own", "some"]
def N_are_short : List Str := ["own", "some", "seen", "state"]
def b_are_short_0 : PyData → M Fl := bodyM (nameM 3) (thenM (extM 2 (op2 idxD (readO 0) (readO 3))) (pure .nx))
def m_are_short : M Fl := thenM (setM 2 (lstM (pure []))) (thenM (forM (seqM (readV 1)) (b_are_short_0)) (thenM (retM (op2 (cmpD .lt) (toO (op1 lenSetD (readO 2))) (toO (op1L lenF (readO 1))))) (pure .nx)))
def ps_refusal_of : List Str := ["faces", "messages"]
def N_refusal_of : List Str := ["faces", "messages", "at", "message", "own", "some"]
def b_refusal_of_0 : PyData → M Fl := bodyM (tupT 2 (consM (nameM 2) (consM (nameM 3) (nilM)))) (thenM (ifM (asB (op2 (cmpD .eq) (toO (callM N_fit_of.length ps_fit_of.length m_fit_of (do let d ← valM (readV 0); let ds ← (do let d ← valM (readV 3); let ds ← (pure []); pure (d :: ds)); pure (d :: ds)))) (toO (tupM (pure []))))) (thenM (retM (tupM (do let d ← valM (pure ⟨.str "barred", false⟩); let ds ← (do let d ← valM (readV 2); let ds ← (do let d ← valM (callM N_first_enviers.length ps_first_enviers.length m_first_enviers (do let d ← valM (readV 0); let ds ← (do let d ← valM (readV 3); let ds ← (pure []); pure (d :: ds)); pure (d :: ds))); let ds ← (pure []); pure (d :: ds)); pure (d :: ds)); pure (d :: ds)))) (pure .nx)) (pure .nx)) (pure .nx))
def b_refusal_of_1 : PyData → M Fl := bodyM (nameM 5) (thenM (ifM (asB (callM N_are_short.length ps_are_short.length m_are_short (do let d ← valM (readV 4); let ds ← (do let d ← valM (readV 5); let ds ← (pure []); pure (d :: ds)); pure (d :: ds)))) (thenM (retM (tupM (do let d ← valM (pure ⟨.str "short", false⟩); let ds ← (do let d ← valM (readV 5); let ds ← (pure []); pure (d :: ds)); pure (d :: ds)))) (pure .nx)) (pure .nx)) (pure .nx))
def m_refusal_of : M Fl := thenM (forM (enumM (readV 1)) (b_refusal_of_0)) (thenM (setM 4 (frzM (callM N_own_of.length ps_own_of.length m_own_of (do let d ← valM (readV 0); let ds ← (do let d ← valM (readV 1); let ds ← (pure []); pure (d :: ds)); pure (d :: ds))))) (thenM (forM (seqM (callM N_sets_by_size.length ps_sets_by_size.length m_sets_by_size (do let d ← valM (op1L lenF (readO 0)); let ds ← (pure []); pure (d :: ds)))) (b_refusal_of_1)) (thenM (retM (pure ⟨.none, false⟩)) (pure .nx))))
def ps_gains_of : List Str := ["faces", "messages", "way"]
def N_gains_of : List Str := ["faces", "messages", "way", "tells", "reading", "found", "state", "own", "at", "message"]
def b_gains_of_0 : PyData → M Fl := bodyM (tupT 2 (consM (nameM 8) (consM (nameM 9) (nilM)))) (thenM (ifM (Ev.andM (asB (op2 (cmpD .isin) (readO 6) (readO 9))) (asB (op2 (cmpD .gt) (toO (op2 idxD (toO (op2 idxD (readO 0) (readO 6))) (toO (op2 idxD (readO 4) (readO 8))))) (readO 7)))) (thenM (appM 5 (tupM (do let d ← valM (readV 6); let ds ← (do let d ← valM (readV 8); let ds ← (pure []); pure (d :: ds)); pure (d :: ds)))) (pure .nx)) (pure .nx)) (pure .nx))
def b_gains_of_1 : PyData → M Fl := bodyM (nameM 6) (thenM (setM 7 (op2 idxD (toO (op2 idxD (readO 0) (readO 6))) (toO (op2 idxD (readO 4) (toO (op2 idxD (readO 3) (readO 6))))))) (thenM (forM (enumM (readV 1)) (b_gains_of_0)) (pure .nx)))
def m_gains_of : M Fl := thenM (bindM (readV 2) (tupT 2 (consM (nameM 3) (consM (nameM 4) (nilM))))) (thenM (setM 5 (lstM (pure []))) (thenM (forM (rng1M (toO (op1L lenF (readO 0)))) (b_gains_of_1)) (thenM (retM (readR 5)) (pure .nx))))
def ps_row_is_right : List Str := ["value", "states"]
def N_row_is_right : List Str := ["value", "states", "number"]
def c_row_is_right_0 : M RV := lcM [2] (seqM (readV 0)) (turnM (nameM 2) (pure true) (ofB (Ev.andM (asB (callM N_is_integer.length ps_is_integer.length m_is_integer (do let d ← valM (readV 2); let ds ← (pure []); pure (d :: ds)))) (asB (op3 (cmpD .le) (cmpD .le) (toO (op1 negD (toO (pure ⟨.int (99), false⟩)))) (readO 2) (toO (pure ⟨.int (99), false⟩)))))))
def m_row_is_right : M Fl := thenM (ifM (Ev.orM (Ev.notM (asB (op1 (isiD "tuple") (readO 0)))) (asB (op2 (cmpD .ne) (toO (op1L lenF (readO 0))) (readO 1)))) (thenM (retM (pure ⟨.bool false, false⟩)) (pure .nx)) (pure .nx)) (thenM (retM (op1L allF (toO (c_row_is_right_0)))) (pure .nx))
def ps_faces_are_right : List Str := ["value"]
def N_faces_are_right : List Str := ["value", "row"]
def c_faces_are_right_0 : M RV := lcM [1] (seqM (readV 0)) (turnM (nameM 1) (pure true) (callM N_row_is_right.length ps_row_is_right.length m_row_is_right (do let d ← valM (readV 1); let ds ← (do let d ← valM (op1L lenF (readO 0)); let ds ← (pure []); pure (d :: ds)); pure (d :: ds))))
def m_faces_are_right : M Fl := thenM (ifM (Ev.orM (Ev.notM (asB (op1 (isiD "tuple") (readO 0)))) (Ev.notM (asB (op3 (cmpD .le) (cmpD .le) (toO (pure ⟨.int 1, false⟩)) (toO (op1L lenF (readO 0))) (toO (pure ⟨.int (4), false⟩)))))) (thenM (retM (pure ⟨.bool false, false⟩)) (pure .nx)) (pure .nx)) (thenM (retM (op1L allF (toO (c_faces_are_right_0)))) (pure .nx))
def ps_set_is_right : List Str := ["value", "states"]
def N_set_is_right : List Str := ["value", "states", "state", "one", "other"]
def c_set_is_right_0 : M RV := lcM [2] (seqM (readV 0)) (turnM (nameM 2) (pure true) (callM N_is_position.length ps_is_position.length m_is_position (do let d ← valM (readV 2); let ds ← (do let d ← valM (readV 1); let ds ← (pure []); pure (d :: ds)); pure (d :: ds))))
def c_set_is_right_1 : M RV := lcM [3, 4] (zipM (readV 0) (slcM (readO 0) (partM (some (toO (pure ⟨.int 1, false⟩)))) (partM none))) (turnM (tupT 2 (consM (nameM 3) (consM (nameM 4) (nilM)))) (pure true) (op2 (cmpD .lt) (readO 3) (readO 4)))
def m_set_is_right : M Fl := thenM (ifM (Ev.orM (Ev.notM (asB (op1 (isiD "tuple") (readO 0)))) (Ev.orM (asB (op2 (cmpD .eq) (readO 0) (toO (tupM (pure []))))) (Ev.notM (asB (op1L allF (toO (c_set_is_right_0))))))) (thenM (retM (pure ⟨.bool false, false⟩)) (pure .nx)) (pure .nx)) (thenM (retM (op1L allF (toO (c_set_is_right_1)))) (pure .nx))
def ps_messages_are_right : List Str := ["faces", "value"]
def N_messages_are_right : List Str := ["faces", "value", "message", "one", "other", "state"]
def c_messages_are_right_0 : M RV := lcM [2] (seqM (readV 1)) (turnM (nameM 2) (pure true) (callM N_set_is_right.length ps_set_is_right.length m_set_is_right (do let d ← valM (readV 2); let ds ← (do let d ← valM (op1L lenF (readO 0)); let ds ← (pure []); pure (d :: ds)); pure (d :: ds))))
def c_messages_are_right_1 : M RV := lcM [3, 4] (zipM (readV 1) (slcM (readO 1) (partM (some (toO (pure ⟨.int 1, false⟩)))) (partM none))) (turnM (tupT 2 (consM (nameM 3) (consM (nameM 4) (nilM)))) (pure true) (op2 (cmpD .lt) (readO 3) (readO 4)))
def c_messages_are_right_2 : M RV := lcM [2] (seqM (readV 1)) (turnM (nameM 2) (pure true) (op2 (cmpD .isin) (readO 5) (readO 2)))
def c_messages_are_right_3 : M RV := lcM [5] (rng1M (toO (op1L lenF (readO 0)))) (turnM (nameM 5) (pure true) (op1L anyF (toO (c_messages_are_right_2))))
def m_messages_are_right : M Fl := thenM (ifM (Ev.orM (Ev.notM (asB (op1 (isiD "tuple") (readO 1)))) (Ev.notM (asB (op3 (cmpD .le) (cmpD .le) (toO (pure ⟨.int 1, false⟩)) (toO (op1L lenF (readO 1))) (toO (pure ⟨.int 15, false⟩)))))) (thenM (retM (pure ⟨.bool false, false⟩)) (pure .nx)) (pure .nx)) (thenM (ifM (Ev.notM (asB (op1L allF (toO (c_messages_are_right_0))))) (thenM (retM (pure ⟨.bool false, false⟩)) (pure .nx)) (pure .nx)) (thenM (ifM (Ev.notM (asB (op1L allF (toO (c_messages_are_right_1))))) (thenM (retM (pure ⟨.bool false, false⟩)) (pure .nx)) (pure .nx)) (thenM (retM (op1L allF (toO (c_messages_are_right_3)))) (pure .nx))))
def ps_way_is_right : List Str := ["faces", "messages", "value"]
def N_way_is_right : List Str := ["faces", "messages", "value", "tells", "reading", "some", "at", "state", "message"]
def c_way_is_right_0 : M RV := lcM [5] (seqM (readV 2)) (turnM (nameM 5) (pure true) (op1 (isiD "tuple") (readO 5)))
def c_way_is_right_1 : M RV := lcM [6] (seqM (readV 3)) (turnM (nameM 6) (pure true) (callM N_is_position.length ps_is_position.length m_is_position (do let d ← valM (readV 6); let ds ← (do let d ← valM (op1L lenF (readO 1)); let ds ← (pure []); pure (d :: ds)); pure (d :: ds))))
def c_way_is_right_2 : M RV := lcM [7] (seqM (readV 4)) (turnM (nameM 7) (pure true) (callM N_is_position.length ps_is_position.length m_is_position (do let d ← valM (readV 7); let ds ← (do let d ← valM (op1L lenF (readO 0)); let ds ← (pure []); pure (d :: ds)); pure (d :: ds))))
def c_way_is_right_3 : M RV := lcM [7, 6] (enumM (readV 3)) (turnM (tupT 2 (consM (nameM 7) (consM (nameM 6) (nilM)))) (pure true) (op2 (cmpD .isin) (readO 7) (toO (op2 idxD (readO 1) (readO 6)))))
def c_way_is_right_4 : M RV := lcM [7, 8] (zipM (readV 4) (readV 1)) (turnM (tupT 2 (consM (nameM 7) (consM (nameM 8) (nilM)))) (pure true) (op2 (cmpD .isin) (readO 7) (readO 8)))
def m_way_is_right : M Fl := thenM (ifM (Ev.orM (Ev.notM (asB (op1 (isiD "tuple") (readO 2)))) (Ev.orM (asB (op2 (cmpD .ne) (toO (op1L lenF (readO 2))) (toO (pure ⟨.int 2, false⟩)))) (Ev.notM (asB (op1L allF (toO (c_way_is_right_0))))))) (thenM (retM (pure ⟨.bool false, false⟩)) (pure .nx)) (pure .nx)) (thenM (bindM (readV 2) (tupT 2 (consM (nameM 3) (consM (nameM 4) (nilM))))) (thenM (ifM (Ev.orM (asB (op2 (cmpD .ne) (toO (op1L lenF (readO 3))) (toO (op1L lenF (readO 0))))) (asB (op2 (cmpD .ne) (toO (op1L lenF (readO 4))) (toO (op1L lenF (readO 1)))))) (thenM (retM (pure ⟨.bool false, false⟩)) (pure .nx)) (pure .nx)) (thenM (ifM (Ev.notM (asB (op1L allF (toO (c_way_is_right_1))))) (thenM (retM (pure ⟨.bool false, false⟩)) (pure .nx)) (pure .nx)) (thenM (ifM (Ev.notM (asB (op1L allF (toO (c_way_is_right_2))))) (thenM (retM (pure ⟨.bool false, false⟩)) (pure .nx)) (pure .nx)) (thenM (ifM (Ev.notM (asB (op1L allF (toO (c_way_is_right_3))))) (thenM (retM (pure ⟨.bool false, false⟩)) (pure .nx)) (pure .nx)) (thenM (retM (op1L allF (toO (c_way_is_right_4)))) (pure .nx)))))))
def ps_enviers_fit : List Str := ["faces", "message", "value"]
def N_enviers_fit : List Str := ["faces", "message", "value", "one", "state"]
def c_enviers_fit_0 : M RV := lcM [3] (seqM (readV 2)) (turnM (nameM 3) (pure true) (ofB (Ev.andM (asB (callM N_is_position.length ps_is_position.length m_is_position (do let d ← valM (readV 3); let ds ← (do let d ← valM (op1L lenF (readO 0)); let ds ← (pure []); pure (d :: ds)); pure (d :: ds)))) (asB (op2 (cmpD .isin) (readO 3) (readO 1))))))
def c_enviers_fit_1 : M RV := lcM [3, 4] (zipM (readV 2) (readV 1)) (turnM (tupT 2 (consM (nameM 3) (consM (nameM 4) (nilM)))) (pure true) (callM N_does_envy.length ps_does_envy.length m_does_envy (do let d ← valM (readV 0); let ds ← (do let d ← valM (readV 3); let ds ← (do let d ← valM (readV 4); let ds ← (pure []); pure (d :: ds)); pure (d :: ds)); pure (d :: ds))))
def m_enviers_fit : M Fl := thenM (ifM (Ev.orM (Ev.notM (asB (op1 (isiD "tuple") (readO 2)))) (asB (op2 (cmpD .ne) (toO (op1L lenF (readO 2))) (toO (op1L lenF (readO 1)))))) (thenM (retM (pure ⟨.bool false, false⟩)) (pure .nx)) (pure .nx)) (thenM (ifM (Ev.notM (asB (op1L allF (toO (c_enviers_fit_0))))) (thenM (retM (pure ⟨.bool false, false⟩)) (pure .nx)) (pure .nx)) (thenM (retM (op1L allF (toO (c_enviers_fit_1)))) (pure .nx)))
def ps_check_faces : List Str := ["faces"]
def N_check_faces : List Str := ["faces"]
def m_check_faces : M Fl := thenM (ifM (Ev.notM (asB (callM N_faces_are_right.length ps_faces_are_right.length m_faces_are_right (do let d ← valM (readV 0); let ds ← (pure []); pure (d :: ds))))) (thenM (liftO none) (pure .nx)) (pure .nx)) (pure .nx)
def ps_check_both : List Str := ["faces", "messages"]
def N_check_both : List Str := ["faces", "messages"]
def m_check_both : M Fl := thenM (dropM (callM N_check_faces.length ps_check_faces.length m_check_faces (do let d ← valM (readV 0); let ds ← (pure []); pure (d :: ds)))) (thenM (ifM (Ev.notM (asB (callM N_messages_are_right.length ps_messages_are_right.length m_messages_are_right (do let d ← valM (readV 0); let ds ← (do let d ← valM (readV 1); let ds ← (pure []); pure (d :: ds)); pure (d :: ds))))) (thenM (liftO none) (pure .nx)) (pure .nx)) (pure .nx))
def ps_exact_way : List Str := ["faces", "messages"]
def N_exact_way : List Str := ["faces", "messages"]
def m_exact_way : M Fl := thenM (dropM (callM N_check_both.length ps_check_both.length m_check_both (do let d ← valM (readV 0); let ds ← (do let d ← valM (readV 1); let ds ← (pure []); pure (d :: ds)); pure (d :: ds)))) (thenM (retM (callM N_exact_of.length ps_exact_of.length m_exact_of (do let d ← valM (readV 0); let ds ← (do let d ← valM (readV 1); let ds ← (pure []); pure (d :: ds)); pure (d :: ds)))) (pure .nx))
def ps_refusal : List Str := ["faces", "messages"]
def N_refusal : List Str := ["faces", "messages"]
def m_refusal : M Fl := thenM (dropM (callM N_check_both.length ps_check_both.length m_check_both (do let d ← valM (readV 0); let ds ← (do let d ← valM (readV 1); let ds ← (pure []); pure (d :: ds)); pure (d :: ds)))) (thenM (retM (callM N_refusal_of.length ps_refusal_of.length m_refusal_of (do let d ← valM (readV 0); let ds ← (do let d ← valM (readV 1); let ds ← (pure []); pure (d :: ds)); pure (d :: ds)))) (pure .nx))
def ps_is_exact : List Str := ["faces", "messages", "value"]
def N_is_exact : List Str := ["faces", "messages", "value", "tells", "reading", "state", "at"]
def c_is_exact_0 : M RV := lcM [5, 6] (enumM (readV 3)) (turnM (tupT 2 (consM (nameM 5) (consM (nameM 6) (nilM)))) (pure true) (op2 (cmpD .eq) (toO (op2 idxD (readO 4) (readO 6))) (readO 5)))
def m_is_exact : M Fl := thenM (dropM (callM N_check_both.length ps_check_both.length m_check_both (do let d ← valM (readV 0); let ds ← (do let d ← valM (readV 1); let ds ← (pure []); pure (d :: ds)); pure (d :: ds)))) (thenM (ifM (Ev.orM (Ev.notM (asB (callM N_way_is_right.length ps_way_is_right.length m_way_is_right (do let d ← valM (readV 0); let ds ← (do let d ← valM (readV 1); let ds ← (do let d ← valM (readV 2); let ds ← (pure []); pure (d :: ds)); pure (d :: ds)); pure (d :: ds))))) (asB (op2 (cmpD .ne) (toO (callM N_gains_of.length ps_gains_of.length m_gains_of (do let d ← valM (readV 0); let ds ← (do let d ← valM (readV 1); let ds ← (do let d ← valM (readV 2); let ds ← (pure []); pure (d :: ds)); pure (d :: ds)); pure (d :: ds)))) (toO (lstM (pure [])))))) (thenM (retM (pure ⟨.bool false, false⟩)) (pure .nx)) (pure .nx)) (thenM (bindM (readV 2) (tupT 2 (consM (nameM 3) (consM (nameM 4) (nilM))))) (thenM (retM (ofB (Ev.andM (asB (op2 (cmpD .eq) (toO (op1 lenSetD (readO 3))) (toO (op1L lenF (readO 3))))) (asB (op1L allF (toO (c_is_exact_0))))))) (pure .nx))))
def ps_is_refusal : List Str := ["faces", "messages", "value"]
def N_is_refusal : List Str := ["faces", "messages", "value"]
def m_is_refusal : M Fl := thenM (dropM (callM N_check_both.length ps_check_both.length m_check_both (do let d ← valM (readV 0); let ds ← (do let d ← valM (readV 1); let ds ← (pure []); pure (d :: ds)); pure (d :: ds)))) (thenM (ifM (Ev.orM (Ev.notM (asB (op1 (isiD "tuple") (readO 2)))) (Ev.orM (asB (op2 (cmpD .lt) (toO (op1L lenF (readO 2))) (toO (pure ⟨.int 2, false⟩)))) (Ev.notM (asB (op1 (isiD "str") (toO (op2 idxD (readO 2) (toO (pure ⟨.int 0, false⟩))))))))) (thenM (retM (pure ⟨.bool false, false⟩)) (pure .nx)) (pure .nx)) (thenM (ifM (Ev.andM (asB (op2 (cmpD .eq) (toO (op2 idxD (readO 2) (toO (pure ⟨.int 0, false⟩)))) (toO (pure ⟨.str "barred", false⟩)))) (Ev.andM (asB (op2 (cmpD .eq) (toO (op1L lenF (readO 2))) (toO (pure ⟨.int 3, false⟩)))) (asB (callM N_is_position.length ps_is_position.length m_is_position (do let d ← valM (op2 idxD (readO 2) (toO (pure ⟨.int 1, false⟩))); let ds ← (do let d ← valM (op1L lenF (readO 1)); let ds ← (pure []); pure (d :: ds)); pure (d :: ds)))))) (thenM (retM (callM N_enviers_fit.length ps_enviers_fit.length m_enviers_fit (do let d ← valM (readV 0); let ds ← (do let d ← valM (op2 idxD (readO 1) (toO (op2 idxD (readO 2) (toO (pure ⟨.int 1, false⟩))))); let ds ← (do let d ← valM (op2 idxD (readO 2) (toO (pure ⟨.int 2, false⟩))); let ds ← (pure []); pure (d :: ds)); pure (d :: ds)); pure (d :: ds)))) (pure .nx)) (pure .nx)) (thenM (ifM (Ev.andM (asB (op2 (cmpD .eq) (toO (op2 idxD (readO 2) (toO (pure ⟨.int 0, false⟩)))) (toO (pure ⟨.str "short", false⟩)))) (Ev.andM (asB (op2 (cmpD .eq) (toO (op1L lenF (readO 2))) (toO (pure ⟨.int 2, false⟩)))) (asB (callM N_set_is_right.length ps_set_is_right.length m_set_is_right (do let d ← valM (op2 idxD (readO 2) (toO (pure ⟨.int 1, false⟩))); let ds ← (do let d ← valM (op1L lenF (readO 0)); let ds ← (pure []); pure (d :: ds)); pure (d :: ds)))))) (thenM (retM (callM N_are_short.length ps_are_short.length m_are_short (do let d ← valM (callM N_own_of.length ps_own_of.length m_own_of (do let d ← valM (readV 0); let ds ← (do let d ← valM (readV 1); let ds ← (pure []); pure (d :: ds)); pure (d :: ds))); let ds ← (do let d ← valM (op2 idxD (readO 2) (toO (pure ⟨.int 1, false⟩))); let ds ← (pure []); pure (d :: ds)); pure (d :: ds)))) (pure .nx)) (pure .nx)) (thenM (retM (pure ⟨.bool false, false⟩)) (pure .nx)))))
def ps__law_pot : List Str := ["script", "k"]
def N__law_pot : List Str := ["script", "k", "cell", "mixed"]
def m__law_pot : M Fl := thenM (setM 2 (frzM (iteM (asB (op2 (cmpD .lt) (readO 1) (toO (op1L lenF (readO 0))))) (op1L absF (toO (op2 idxD (readO 0) (readO 1)))) (op2 addD (toO (op2 mulD (toO (pure ⟨.int 613, false⟩)) (readO 1))) (toO (pure ⟨.int 859, false⟩)))))) (thenM (setM 3 (frzM (op2 addD (toO (op2 modD (toO (op1L intF (toO (op2 addD (toO (op2 addD (toO (op2 mulD (toO (op2 modD (toO (op1L intF (readO 2))) (toO (pure ⟨.int 2147483549, false⟩)))) (toO (pure ⟨.int 39373, false⟩)))) (toO (op2 mulD (toO (pure ⟨.int 4177, false⟩)) (readO 1))))) (toO (pure ⟨.int 101, false⟩)))))) (toO (pure ⟨.int 2147483563, false⟩)))) (toO (pure ⟨.int 1, false⟩))))) (thenM (retM (lstM (do let d ← valM (op2L maxF (toO (pure ⟨.int 0, false⟩)) (toO (op2 subD (readO 2) (toO (op2 powD (toO (pure ⟨.int 10, false⟩)) (toO (pure ⟨.int 18, false⟩))))))); let ds ← (do let d ← valM (readV 3); let ds ← (pure []); pure (d :: ds)); pure (d :: ds)))) (pure .nx)))
def ps__law_draw : List Str := ["pot", "many"]
def N__law_draw : List Str := ["pot", "many", "digit"]
def m__law_draw : M Fl := thenM (ifM (asB (op2 (cmpD .gt) (toO (op2 idxD (readO 0) (toO (pure ⟨.int 0, false⟩)))) (toO (pure ⟨.int 0, false⟩)))) (thenM (setM 2 (op2 modD (toO (op1L intF (toO (op2 idxD (readO 0) (toO (pure ⟨.int 0, false⟩)))))) (readO 1))) (thenM (bindM (op2 fdivD (toO (op1L intF (toO (op2 idxD (readO 0) (toO (pure ⟨.int 0, false⟩)))))) (readO 1)) (subT 0 (toO (pure ⟨.int 0, false⟩)))) (thenM (retM (readR 2)) (pure .nx)))) (pure .nx)) (thenM (bindM (op2 modD (toO (op1L intF (toO (op2 addD (toO (op2 mulD (toO (op2 idxD (readO 0) (toO (pure ⟨.int 1, false⟩)))) (toO (pure ⟨.int 39373, false⟩)))) (toO (pure ⟨.int 4177, false⟩)))))) (toO (pure ⟨.int 2147483549, false⟩))) (subT 0 (toO (pure ⟨.int 1, false⟩)))) (thenM (retM (op2 modD (toO (op1L intF (toO (op2 fdivD (toO (op2 modD (toO (op1L intF (toO (op2 mulD (toO (op2 idxD (readO 0) (toO (pure ⟨.int 1, false⟩)))) (toO (op2 idxD (readO 0) (toO (pure ⟨.int 1, false⟩)))))))) (toO (pure ⟨.int 2147483563, false⟩)))) (toO (pure ⟨.int 19, false⟩)))))) (readO 1))) (pure .nx)))
def ps__law_pick : List Str := ["pot", "some"]
def N__law_pick : List Str := ["pot", "some"]
def m__law_pick : M Fl := thenM (retM (op2 idxD (readO 1) (toO (callPM 0 N__law_draw.length ps__law_draw.length m__law_draw (do let d ← valM (op1L lenF (readO 1)); let ds ← (pure []); pure (d :: ds)))))) (pure .nx)
def ps__law_sets : List Str := ["states"]
def N__law_sets : List Str := ["states", "found", "state", "some"]
def c__law_sets_0 : M RV := lcM [3] (seqM (readV 1)) (turnM (nameM 3) (pure true) (op2 addD (readO 3) (toO (tupM (do let d ← valM (readV 2); let ds ← (pure []); pure (d :: ds))))))
def b__law_sets_0 : PyData → M Fl := bodyM (nameM 2) (thenM (setM 1 (frzM (op2 addD (readO 1) (toO (c__law_sets_0))))) (pure .nx))
def c__law_sets_1 : M RV := lcM [3] (seqM (readV 1)) (turnM (nameM 3) (asB (op2 (cmpD .ne) (readO 3) (toO (tupM (pure []))))) (readV 3))
def m__law_sets : M Fl := thenM (setM 1 (frzM (lstM (do let d ← valM (tupM (pure [])); let ds ← (pure []); pure (d :: ds))))) (thenM (forM (rng1M (readO 0)) (b__law_sets_0)) (thenM (retM (op1L sortedF (toO (c__law_sets_1)))) (pure .nx)))
def ps__law_faces : List Str := ["pot", "states"]
def N__law_faces : List Str := ["pot", "states", "way", "most", "row", "rows", "own", "state"]
def c__law_faces_0 : M RV := lcM [7] (rng1M (readO 1)) (turnM (nameM 7) (pure true) (op2 subD (toO (callPM 0 N__law_draw.length ps__law_draw.length m__law_draw (do let d ← valM (pure ⟨.int 7, false⟩); let ds ← (pure []); pure (d :: ds)))) (toO (pure ⟨.int 3, false⟩))))
def c__law_faces_1 : M RV := lcM [7] (rng1M (readO 1)) (turnM (nameM 7) (pure true) (op2 subD (toO (callPM 0 N__law_draw.length ps__law_draw.length m__law_draw (do let d ← valM (op2 addD (toO (op2 mulD (toO (pure ⟨.int 2, false⟩)) (readO 3))) (toO (pure ⟨.int 1, false⟩))); let ds ← (pure []); pure (d :: ds)))) (readO 3)))
def c__law_faces_2 : M RV := lcM [4] (seqM (readV 5)) (turnM (nameM 4) (pure true) (op1L tupleF (readO 4)))
def m__law_faces : M Fl := thenM (bindM (tupM (do let d ← valM (callPM 0 N__law_draw.length ps__law_draw.length m__law_draw (do let d ← valM (pure ⟨.int 4, false⟩); let ds ← (pure []); pure (d :: ds))); let ds ← (do let d ← valM (callPM 0 N__law_pick.length ps__law_pick.length m__law_pick (do let d ← valM (lstM (do let d ← valM (pure ⟨.int 1, false⟩); let ds ← (do let d ← valM (pure ⟨.int 2, false⟩); let ds ← (do let d ← valM (pure ⟨.int 4, false⟩); let ds ← (pure []); pure (d :: ds)); pure (d :: ds)); pure (d :: ds))); let ds ← (pure []); pure (d :: ds))); let ds ← (pure []); pure (d :: ds)); pure (d :: ds))) (tupT 2 (consM (nameM 2) (consM (nameM 3) (nilM))))) (thenM (ifM (asB (op2 (cmpD .eq) (readO 2) (toO (pure ⟨.int 0, false⟩)))) (thenM (setM 4 (frzM (c__law_faces_0))) (thenM (retM (op1L tupleF (toO (op2 mulD (toO (lstM (do let d ← valM (op1L tupleF (readO 4)); let ds ← (pure []); pure (d :: ds)))) (readO 1))))) (pure .nx))) (pure .nx)) (nestM 5 [6] (rng1M (readO 1)) (nameM 6) (c__law_faces_1) (nifM 5 (asB (op2 (cmpD .eq) (readO 2) (toO (pure ⟨.int 1, false⟩)))) (nthenM (nforM 5 (rng1M (readO 1)) (nameM 6) (nthenM (nsetM 5 (op2 addD (readO 3) (toO (pure ⟨.int 1, false⟩))) (readO 6) (readO 6)) (nthenM (nsetM 5 (op2 addD (toO (op2 addD (readO 3) (toO (pure ⟨.int 1, false⟩)))) (toO (callPM 0 N__law_draw.length ps__law_draw.length m__law_draw (do let d ← valM (pure ⟨.int 2, false⟩); let ds ← (pure []); pure (d :: ds))))) (readO 6) (toO (op2 modD (toO (op1L intF (toO (op2 addD (readO 6) (toO (pure ⟨.int 1, false⟩)))))) (readO 1)))) (nnilM)))) (nnilM)) (nnilM)) (thenM (retM (op1L tupleF (toO (c__law_faces_2)))) (pure .nx))))
def ps__law_messages : List Str := ["pot", "states"]
def N__law_messages : List Str := ["pot", "states", "found", "state", "some"]
def c__law_messages_0 : M RV := lcM [4] (seqM (callM N__law_sets.length ps__law_sets.length m__law_sets (do let d ← valM (readV 1); let ds ← (pure []); pure (d :: ds)))) (turnM (nameM 4) (asB (op2 (cmpD .eq) (toO (callPM 0 N__law_draw.length ps__law_draw.length m__law_draw (do let d ← valM (pure ⟨.int 3, false⟩); let ds ← (pure []); pure (d :: ds)))) (toO (pure ⟨.int 0, false⟩)))) (readV 4))
def c__law_messages_1 : M RV := lcK 2 [4] (turnM (nameM 4) (pure true) (op2 (cmpD .isin) (readO 3) (readO 4)))
def c__law_messages_2 : M RV := lcM [4] (seqM (callM N__law_sets.length ps__law_sets.length m__law_sets (do let d ← valM (readV 1); let ds ← (pure []); pure (d :: ds)))) (turnM (nameM 4) (asB (op2 (cmpD .isin) (readO 3) (readO 4))) (readV 4))
def b__law_messages_0 : PyData → M Fl := bodyM (nameM 3) (thenM (ifM (Ev.notM (asB (op1L anyF (toO (c__law_messages_1))))) (thenM (appM 2 (callPM 0 N__law_pick.length ps__law_pick.length m__law_pick (do let d ← valM (c__law_messages_2); let ds ← (pure []); pure (d :: ds)))) (pure .nx)) (pure .nx)) (pure .nx))
def m__law_messages : M Fl := thenM (setM 2 (c__law_messages_0)) (thenM (forM (rng1M (readO 1)) (b__law_messages_0)) (thenM (retM (op1L tupleF (toO (op1L sortedF (readO 2))))) (pure .nx)))
def ps__law_fit : List Str := ["faces", "some"]
def N__law_fit : List Str := ["faces", "some", "state", "other"]
def c__law_fit_0 : M RV := lcM [3] (seqM (readV 1)) (turnM (nameM 3) (pure true) (op2 (cmpD .gt) (toO (op2 idxD (toO (op2 idxD (readO 0) (readO 3))) (readO 2))) (toO (op2 idxD (toO (op2 idxD (readO 0) (readO 3))) (readO 3)))))
def c__law_fit_1 : M RV := lcM [2] (seqM (readV 1)) (turnM (nameM 2) (Ev.notM (asB (op1L anyF (toO (c__law_fit_0))))) (readV 2))
def m__law_fit : M Fl := thenM (retM (c__law_fit_1)) (pure .nx)
def ps__law_own : List Str := ["faces", "messages"]
def N__law_own : List Str := ["faces", "messages", "fits", "some", "state", "at"]
def c__law_own_0 : M RV := lcM [3] (seqM (readV 1)) (turnM (nameM 3) (pure true) (callM N__law_fit.length ps__law_fit.length m__law_fit (do let d ← valM (readV 0); let ds ← (do let d ← valM (readV 3); let ds ← (pure []); pure (d :: ds)); pure (d :: ds))))
def c__law_own_1 : M RV := lcM [5, 3] (enumM (readV 2)) (turnM (tupT 2 (consM (nameM 5) (consM (nameM 3) (nilM)))) (asB (op2 (cmpD .isin) (readO 4) (readO 3))) (readV 5))
def c__law_own_2 : M RV := lcM [4] (rng1M (toO (op1L lenF (readO 0)))) (turnM (nameM 4) (pure true) (c__law_own_1))
def m__law_own : M Fl := thenM (setM 2 (frzM (c__law_own_0))) (thenM (retM (c__law_own_2)) (pure .nx))
def ps__law_are_at : List Str := ["value", "many", "most"]
def N__law_are_at : List Str := ["value", "many", "most", "one"]
def c__law_are_at_0 : M RV := lcM [3] (seqM (readV 0)) (turnM (nameM 3) (pure true) (ofB (Ev.andM (asB (op1 (isiD "int") (readO 3))) (Ev.andM (Ev.notM (asB (op1 (isiD "bool") (readO 3)))) (asB (op3 (cmpD .le) (cmpD .lt) (toO (pure ⟨.int 0, false⟩)) (readO 3) (readO 2)))))))
def m__law_are_at : M Fl := thenM (ifM (Ev.orM (Ev.notM (asB (op1 (isiD "tuple") (readO 0)))) (asB (op2 (cmpD .ne) (toO (op1L lenF (readO 0))) (readO 1)))) (thenM (retM (pure ⟨.bool false, false⟩)) (pure .nx)) (pure .nx)) (thenM (retM (op1L allF (toO (c__law_are_at_0)))) (pure .nx))
def ps__law_is_exact : List Str := ["faces", "messages", "value"]
def N__law_is_exact : List Str := ["faces", "messages", "value", "tells", "reading", "state", "at", "some"]
def c__law_is_exact_0 : M RV := lcM [5, 6] (enumM (readV 3)) (turnM (tupT 2 (consM (nameM 5) (consM (nameM 6) (nilM)))) (pure true) (op2 (cmpD .isin) (readO 5) (toO (op2 idxD (readO 1) (readO 6)))))
def c__law_is_exact_1 : M RV := lcM [5, 7] (zipM (readV 4) (readV 1)) (turnM (tupT 2 (consM (nameM 5) (consM (nameM 7) (nilM)))) (pure true) (op2 (cmpD .isin) (readO 5) (readO 7)))
def c__law_is_exact_2 : M RV := lcM [6] (seqM (readV 3)) (turnM (nameM 6) (pure true) (op2 idxD (readO 4) (readO 6)))
def c__law_is_exact_3 : M RV := lcM [6, 7] (enumM (readV 1)) (turnM (tupT 2 (consM (nameM 6) (consM (nameM 7) (nilM)))) (pure true) (ofB (Ev.andM (asB (op2 (cmpD .isin) (readO 5) (readO 7))) (asB (op2 (cmpD .gt) (toO (op2 idxD (toO (op2 idxD (readO 0) (readO 5))) (toO (op2 idxD (readO 4) (readO 6))))) (toO (op2 idxD (toO (op2 idxD (readO 0) (readO 5))) (readO 5))))))))
def b__law_is_exact_0 : PyData → M Fl := bodyM (nameM 5) (thenM (ifM (asB (op1L anyF (toO (c__law_is_exact_3)))) (thenM (retM (pure ⟨.bool false, false⟩)) (pure .nx)) (pure .nx)) (pure .nx))
def m__law_is_exact : M Fl := thenM (ifM (Ev.orM (Ev.notM (asB (op1 (isiD "tuple") (readO 2)))) (asB (op2 (cmpD .ne) (toO (op1L lenF (readO 2))) (toO (pure ⟨.int 2, false⟩))))) (thenM (retM (pure ⟨.bool false, false⟩)) (pure .nx)) (pure .nx)) (thenM (bindM (readV 2) (tupT 2 (consM (nameM 3) (consM (nameM 4) (nilM))))) (thenM (ifM (Ev.orM (Ev.notM (asB (callM N__law_are_at.length ps__law_are_at.length m__law_are_at (do let d ← valM (readV 3); let ds ← (do let d ← valM (op1L lenF (readO 0)); let ds ← (do let d ← valM (op1L lenF (readO 1)); let ds ← (pure []); pure (d :: ds)); pure (d :: ds)); pure (d :: ds))))) (Ev.notM (asB (callM N__law_are_at.length ps__law_are_at.length m__law_are_at (do let d ← valM (readV 4); let ds ← (do let d ← valM (op1L lenF (readO 1)); let ds ← (do let d ← valM (op1L lenF (readO 0)); let ds ← (pure []); pure (d :: ds)); pure (d :: ds)); pure (d :: ds)))))) (thenM (retM (pure ⟨.bool false, false⟩)) (pure .nx)) (pure .nx)) (thenM (ifM (Ev.orM (Ev.notM (asB (op1L allF (toO (c__law_is_exact_0))))) (Ev.notM (asB (op1L allF (toO (c__law_is_exact_1)))))) (thenM (retM (pure ⟨.bool false, false⟩)) (pure .nx)) (pure .nx)) (thenM (ifM (Ev.orM (asB (op2 (cmpD .lt) (toO (op1 lenSetD (readO 3))) (toO (op1L lenF (readO 3))))) (asB (op2 (cmpD .ne) (toO (c__law_is_exact_2)) (toO (lrgM (toO (op1L lenF (readO 0)))))))) (thenM (retM (pure ⟨.bool false, false⟩)) (pure .nx)) (pure .nx)) (thenM (forM (rng1M (toO (op1L lenF (readO 0)))) (b__law_is_exact_0)) (thenM (retM (pure ⟨.bool true, false⟩)) (pure .nx)))))))
def ps__law_is_refusal : List Str := ["faces", "messages", "value"]
def N__law_is_refusal : List Str := ["faces", "messages", "value", "some", "own", "have", "state", "other"]
def c__law_is_refusal_0 : M RV := lcM [6, 7] (zipM (readV 3) (op2 idxD (readO 2) (toO (pure ⟨.int 2, false⟩)))) (turnM (tupT 2 (consM (nameM 6) (consM (nameM 7) (nilM)))) (pure true) (ofB (Ev.andM (asB (op2 (cmpD .isin) (readO 7) (readO 3))) (asB (op2 (cmpD .gt) (toO (op2 idxD (toO (op2 idxD (readO 0) (readO 7))) (readO 6))) (toO (op2 idxD (toO (op2 idxD (readO 0) (readO 7))) (readO 7))))))))
def b__law_is_refusal_0 : PyData → M Fl := bodyM (nameM 6) (thenM (extM 5 (op2 idxD (readO 4) (readO 6))) (pure .nx))
def m__law_is_refusal : M Fl := thenM (ifM (Ev.orM (Ev.notM (asB (op1 (isiD "tuple") (readO 2)))) (Ev.orM (asB (op2 (cmpD .eq) (readO 2) (toO (tupM (pure []))))) (Ev.notM (asB (op1 (isiD "str") (toO (op2 idxD (readO 2) (toO (pure ⟨.int 0, false⟩))))))))) (thenM (retM (pure ⟨.bool false, false⟩)) (pure .nx)) (pure .nx)) (thenM (ifM (asB (op2 (cmpD .eq) (toO (op2 idxD (readO 2) (toO (pure ⟨.int 0, false⟩)))) (toO (pure ⟨.str "barred", false⟩)))) (thenM (ifM (Ev.orM (asB (op2 (cmpD .ne) (toO (op1L lenF (readO 2))) (toO (pure ⟨.int 3, false⟩)))) (Ev.notM (asB (callM N__law_are_at.length ps__law_are_at.length m__law_are_at (do let d ← valM (slcM (readO 2) (partM (some (toO (pure ⟨.int 1, false⟩)))) (partM (some (toO (pure ⟨.int 2, false⟩))))); let ds ← (do let d ← valM (pure ⟨.int 1, false⟩); let ds ← (do let d ← valM (op1L lenF (readO 1)); let ds ← (pure []); pure (d :: ds)); pure (d :: ds)); pure (d :: ds)))))) (thenM (retM (pure ⟨.bool false, false⟩)) (pure .nx)) (pure .nx)) (thenM (setM 3 (op2 idxD (readO 1) (toO (op2 idxD (readO 2) (toO (pure ⟨.int 1, false⟩)))))) (thenM (ifM (Ev.notM (asB (callM N__law_are_at.length ps__law_are_at.length m__law_are_at (do let d ← valM (op2 idxD (readO 2) (toO (pure ⟨.int 2, false⟩))); let ds ← (do let d ← valM (op1L lenF (readO 3)); let ds ← (do let d ← valM (op1L lenF (readO 0)); let ds ← (pure []); pure (d :: ds)); pure (d :: ds)); pure (d :: ds))))) (thenM (retM (pure ⟨.bool false, false⟩)) (pure .nx)) (pure .nx)) (thenM (retM (op1L allF (toO (c__law_is_refusal_0)))) (pure .nx))))) (pure .nx)) (thenM (ifM (Ev.orM (asB (op2 (cmpD .ne) (toO (op2 idxD (readO 2) (toO (pure ⟨.int 0, false⟩)))) (toO (pure ⟨.str "short", false⟩)))) (Ev.orM (asB (op2 (cmpD .ne) (toO (op1L lenF (readO 2))) (toO (pure ⟨.int 2, false⟩)))) (Ev.orM (Ev.notM (asB (op1 (isiD "tuple") (toO (op2 idxD (readO 2) (toO (pure ⟨.int 1, false⟩))))))) (Ev.notM (asB (callM N__law_are_at.length ps__law_are_at.length m__law_are_at (do let d ← valM (op2 idxD (readO 2) (toO (pure ⟨.int 1, false⟩))); let ds ← (do let d ← valM (op1L lenF (toO (op2 idxD (readO 2) (toO (pure ⟨.int 1, false⟩))))); let ds ← (do let d ← valM (op1L lenF (readO 0)); let ds ← (pure []); pure (d :: ds)); pure (d :: ds)); pure (d :: ds)))))))) (thenM (retM (pure ⟨.bool false, false⟩)) (pure .nx)) (pure .nx)) (thenM (ifM (asB (op2 (cmpD .ne) (toO (op1L listF (toO (op2 idxD (readO 2) (toO (pure ⟨.int 1, false⟩)))))) (toO (op1 sortSetD (toO (op2 idxD (readO 2) (toO (pure ⟨.int 1, false⟩)))))))) (thenM (retM (pure ⟨.bool false, false⟩)) (pure .nx)) (pure .nx)) (thenM (parM 4 5 (frzM (callM N__law_own.length ps__law_own.length m__law_own (do let d ← valM (readV 0); let ds ← (do let d ← valM (readV 1); let ds ← (pure []); pure (d :: ds)); pure (d :: ds)))) (lstM (pure []))) (thenM (forM (seqM (op2 idxD (readO 2) (toO (pure ⟨.int 1, false⟩)))) (b__law_is_refusal_0)) (thenM (retM (op2 (cmpD .lt) (toO (op1 lenSetD (readO 5))) (toO (op1L lenF (toO (op2 idxD (readO 2) (toO (pure ⟨.int 1, false⟩)))))))) (pure .nx)))))))
def ps__law_bent : List Str := ["pot", "value", "most"]
def N__law_bent : List Str := ["pot", "value", "most", "at"]
def m__law_bent : Nat → M Fl
  | 0 => liftO none
  | fuel + 1 => thenM (ifM (asB (op1 (isiD "str") (readO 1))) (thenM (retM (callPM 0 N__law_pick.length ps__law_pick.length m__law_pick (do let d ← valM (lstM (do let d ← valM (pure ⟨.str "barred", false⟩); let ds ← (do let d ← valM (pure ⟨.str "short", false⟩); let ds ← (do let d ← valM (pure ⟨.str "Barred", false⟩); let ds ← (do let d ← valM (pure ⟨.str "", false⟩); let ds ← (do let d ← valM (pure ⟨.none, false⟩); let ds ← (pure []); pure (d :: ds)); pure (d :: ds)); pure (d :: ds)); pure (d :: ds)); pure (d :: ds))); let ds ← (pure []); pure (d :: ds)))) (pure .nx)) (pure .nx)) (thenM (ifM (Ev.orM (Ev.notM (asB (op1 (isiD "tuple") (readO 1)))) (Ev.orM (asB (op2 (cmpD .eq) (readO 1) (toO (tupM (pure []))))) (asB (op2 (cmpD .eq) (toO (callPM 0 N__law_draw.length ps__law_draw.length m__law_draw (do let d ← valM (pure ⟨.int 6, false⟩); let ds ← (pure []); pure (d :: ds)))) (toO (pure ⟨.int 0, false⟩)))))) (thenM (retM (callPM 0 N__law_pick.length ps__law_pick.length m__law_pick (do let d ← valM (lstM (do let d ← valM (callPM 0 N__law_draw.length ps__law_draw.length m__law_draw (do let d ← valM (readV 2); let ds ← (pure []); pure (d :: ds))); let ds ← (do let d ← valM (callPM 0 N__law_draw.length ps__law_draw.length m__law_draw (do let d ← valM (readV 2); let ds ← (pure []); pure (d :: ds))); let ds ← (do let d ← valM (readV 2); let ds ← (do let d ← valM (op1 negD (toO (pure ⟨.int 1, false⟩))); let ds ← (do let d ← valM (pure ⟨.bool true, false⟩); let ds ← (do let d ← valM (pure ⟨.none, false⟩); let ds ← (do let d ← valM (tupM (do let d ← valM (pure ⟨.int 0, false⟩); let ds ← (pure []); pure (d :: ds))); let ds ← (do let d ← valM (tupM (pure [])); let ds ← (pure []); pure (d :: ds)); pure (d :: ds)); pure (d :: ds)); pure (d :: ds)); pure (d :: ds)); pure (d :: ds)); pure (d :: ds)); pure (d :: ds))); let ds ← (pure []); pure (d :: ds)))) (pure .nx)) (pure .nx)) (thenM (ifM (asB (op2 (cmpD .eq) (toO (callPM 0 N__law_draw.length ps__law_draw.length m__law_draw (do let d ← valM (pure ⟨.int 6, false⟩); let ds ← (pure []); pure (d :: ds)))) (toO (pure ⟨.int 0, false⟩)))) (thenM (retM (callPM 0 N__law_pick.length ps__law_pick.length m__law_pick (do let d ← valM (lstM (do let d ← valM (op1L listF (readO 1)); let ds ← (do let d ← valM (op1 revD (readO 1)); let ds ← (do let d ← valM (slcM (readO 1) (partM none) (partM (some (toO (op1 negD (toO (pure ⟨.int 1, false⟩))))))); let ds ← (do let d ← valM (op2 addD (readO 1) (toO (slcM (readO 1) (partM none) (partM (some (toO (pure ⟨.int 1, false⟩))))))); let ds ← (pure []); pure (d :: ds)); pure (d :: ds)); pure (d :: ds)); pure (d :: ds))); let ds ← (pure []); pure (d :: ds)))) (pure .nx)) (pure .nx)) (thenM (setM 3 (frzM (callPM 0 N__law_draw.length ps__law_draw.length m__law_draw (do let d ← valM (op1L lenF (readO 1)); let ds ← (pure []); pure (d :: ds))))) (thenM (retM (op2 addD (toO (op2 addD (toO (slcM (readO 1) (partM none) (partM (some (readO 3))))) (toO (tupM (do let d ← valM (callPM 0 N__law_bent.length ps__law_bent.length (m__law_bent fuel) (do let d ← valM (op2 idxD (readO 1) (readO 3)); let ds ← (do let d ← valM (readV 2); let ds ← (pure []); pure (d :: ds)); pure (d :: ds))); let ds ← (pure []); pure (d :: ds)))))) (toO (slcM (readO 1) (partM (some (toO (op2 addD (readO 3) (toO (pure ⟨.int 1, false⟩)))))) (partM none))))) (pure .nx)))))
def ps__law_made : List Str := ["pot", "faces", "messages"]
def N__law_made : List Str := ["pot", "faces", "messages", "tells", "reading", "at", "some", "state"]
def c__law_made_0 : M RV := lcM [5, 6] (enumM (readV 2)) (turnM (tupT 2 (consM (nameM 5) (consM (nameM 6) (nilM)))) (asB (op2 (cmpD .isin) (readO 7) (readO 6))) (readV 5))
def c__law_made_1 : M RV := lcM [7] (rng1M (toO (op1L lenF (readO 1)))) (turnM (nameM 7) (pure true) (callPM 0 N__law_pick.length ps__law_pick.length m__law_pick (do let d ← valM (c__law_made_0); let ds ← (pure []); pure (d :: ds))))
def b__law_made_0 : PyData → M Fl := bodyM (tupT 2 (consM (nameM 5) (consM (nameM 6) (nilM)))) (thenM (appM 4 (iteM (asB (op2 (cmpD .isin) (readO 5) (readO 3))) (indexM (readO 3) (readO 5)) (callPM 0 N__law_pick.length ps__law_pick.length m__law_pick (do let d ← valM (readV 6); let ds ← (pure []); pure (d :: ds))))) (pure .nx))
def m__law_made : M Fl := thenM (setM 3 (op1L tupleF (toO (c__law_made_1)))) (thenM (setM 4 (lstM (pure []))) (thenM (forM (enumM (readV 2)) (b__law_made_0)) (thenM (retM (tupM (do let d ← valM (readV 3); let ds ← (do let d ← valM (op1L tupleF (readO 4)); let ds ← (pure []); pure (d :: ds)); pure (d :: ds)))) (pure .nx))))
def ps__law_right : List Str := ["pot", "faces", "messages"]
def N__law_right : List Str := ["pot", "faces", "messages", "shown", "states", "way", "refused", "some", "own", "at", "one", "value", "before", "due", "time", "state"]
def c__law_right_0 : M RV := lcM [10] (seqM (slcM (toO (callM N__law_sets.length ps__law_sets.length m__law_sets (do let d ← valM (readV 4); let ds ← (pure []); pure (d :: ds)))) (partM none) (partM (some (toO (pure ⟨.int 6, false⟩)))))) (turnM (nameM 10) (pure true) (tupM (do let d ← valM (pure ⟨.str "short", false⟩); let ds ← (do let d ← valM (readV 10); let ds ← (pure []); pure (d :: ds)); pure (d :: ds))))
def c__law_right_1 : M RV := lcM [14] (rng1M (toO (pure ⟨.int 3, false⟩))) (turnM (nameM 14) (pure true) (callPM 0 N__law_made.length ps__law_made.length m__law_made (do let d ← valM (readV 1); let ds ← (do let d ← valM (readV 2); let ds ← (pure []); pure (d :: ds)); pure (d :: ds))))
def c__law_right_2 : M RV := lcM [14] (rng1M (toO (pure ⟨.int 8, false⟩))) (turnM (nameM 14) (pure true) (callPM 0 N__law_bent.length ps__law_bent.length (m__law_bent 8) (do let d ← valM (readV 8); let ds ← (do let d ← valM (op2L maxF (readO 4) (toO (op1L lenF (readO 2)))); let ds ← (pure []); pure (d :: ds)); pure (d :: ds))))
def c__law_right_3 : M RV := lcM [15] (seqM (readV 10)) (turnM (nameM 15) (pure true) (callPM 0 N__law_pick.length ps__law_pick.length m__law_pick (do let d ← valM (readV 10); let ds ← (pure []); pure (d :: ds))))
def b__law_right_0 : PyData → M Fl := bodyM (tupT 2 (consM (nameM 9) (consM (nameM 10) (nilM)))) (thenM (appM 7 (tupM (do let d ← valM (pure ⟨.str "barred", false⟩); let ds ← (do let d ← valM (readV 9); let ds ← (do let d ← valM (op1L tupleF (toO (c__law_right_3))); let ds ← (pure []); pure (d :: ds)); pure (d :: ds)); pure (d :: ds)))) (pure .nx))
def b__law_right_1 : PyData → M Fl := bodyM (nameM 11) (thenM (parM 12 13 (op1L reprF (readO 11)) (frzM (lstM (do let d ← valM (callM N__law_is_exact.length ps__law_is_exact.length m__law_is_exact (do let d ← valM (readV 1); let ds ← (do let d ← valM (readV 2); let ds ← (do let d ← valM (readV 11); let ds ← (pure []); pure (d :: ds)); pure (d :: ds)); pure (d :: ds))); let ds ← (do let d ← valM (callM N__law_is_refusal.length ps__law_is_refusal.length m__law_is_refusal (do let d ← valM (readV 1); let ds ← (do let d ← valM (readV 2); let ds ← (do let d ← valM (readV 11); let ds ← (pure []); pure (d :: ds)); pure (d :: ds)); pure (d :: ds))); let ds ← (pure []); pure (d :: ds)); pure (d :: ds))))) (thenM (ifM (Ev.orM (asB (op2 (cmpD .ne) (toO (op1L reprF (toO (lstM (do let d ← valM (callM N_is_exact.length ps_is_exact.length m_is_exact (do let d ← valM (readV 1); let ds ← (do let d ← valM (readV 2); let ds ← (do let d ← valM (readV 11); let ds ← (pure []); pure (d :: ds)); pure (d :: ds)); pure (d :: ds))); let ds ← (do let d ← valM (callM N_is_refusal.length ps_is_refusal.length m_is_refusal (do let d ← valM (readV 1); let ds ← (do let d ← valM (readV 2); let ds ← (do let d ← valM (readV 11); let ds ← (pure []); pure (d :: ds)); pure (d :: ds)); pure (d :: ds))); let ds ← (pure []); pure (d :: ds)); pure (d :: ds)))))) (toO (op1L reprF (readO 13))))) (asB (op2 (cmpD .ne) (toO (op1L reprF (readO 11))) (readO 12)))) (thenM (retM (pure ⟨.bool false, false⟩)) (pure .nx)) (pure .nx)) (thenM (ifM (asB (op2 (cmpD .ne) (toO (op1L reprF (toO (lstM (do let d ← valM (callKM [2, 1, 0] N_is_exact.length ps_is_exact.length m_is_exact (do let d ← valM (readV 11); let ds ← (do let d ← valM (readV 2); let ds ← (do let d ← valM (readV 1); let ds ← (pure []); pure (d :: ds)); pure (d :: ds)); pure (d :: ds))); let ds ← (do let d ← valM (callKM [2, 1, 0] N_is_refusal.length ps_is_refusal.length m_is_refusal (do let d ← valM (readV 11); let ds ← (do let d ← valM (readV 2); let ds ← (do let d ← valM (readV 1); let ds ← (pure []); pure (d :: ds)); pure (d :: ds)); pure (d :: ds))); let ds ← (pure []); pure (d :: ds)); pure (d :: ds)))))) (toO (op1L reprF (readO 13))))) (thenM (retM (pure ⟨.bool false, false⟩)) (pure .nx)) (pure .nx)) (pure .nx))))
def m__law_right : M Fl := thenM (bindM (tupM (do let d ← valM (op1L reprF (toO (lstM (do let d ← valM (readV 1); let ds ← (do let d ← valM (readV 2); let ds ← (pure []); pure (d :: ds)); pure (d :: ds))))); let ds ← (do let d ← valM (op1L lenF (readO 1)); let ds ← (pure []); pure (d :: ds)); pure (d :: ds))) (tupT 2 (consM (nameM 3) (consM (nameM 4) (nilM))))) (thenM (parM 5 6 (frzM (callM N_exact_way.length ps_exact_way.length m_exact_way (do let d ← valM (readV 1); let ds ← (do let d ← valM (readV 2); let ds ← (pure []); pure (d :: ds)); pure (d :: ds)))) (frzM (callM N_refusal.length ps_refusal.length m_refusal (do let d ← valM (readV 1); let ds ← (do let d ← valM (readV 2); let ds ← (pure []); pure (d :: ds)); pure (d :: ds))))) (thenM (setM 7 (lstM (do let d ← valM (readV 5); let ds ← (do let d ← valM (readV 6); let ds ← (do let d ← valM (pure ⟨.none, false⟩); let ds ← (do let d ← valM (pure ⟨.int 0, false⟩); let ds ← (do let d ← valM (tupM (pure [])); let ds ← (do let d ← valM (pure ⟨.str "short", false⟩); let ds ← (do let d ← valM (tupM (do let d ← valM (pure ⟨.str "short", false⟩); let ds ← (do let d ← valM (tupM (pure [])); let ds ← (pure []); pure (d :: ds)); pure (d :: ds))); let ds ← (do let d ← valM (tupM (do let d ← valM (pure ⟨.str "short", false⟩); let ds ← (do let d ← valM (trgM (readO 4)); let ds ← (pure []); pure (d :: ds)); pure (d :: ds))); let ds ← (do let d ← valM (tupM (do let d ← valM (pure ⟨.str "barred", false⟩); let ds ← (pure []); pure (d :: ds))); let ds ← (do let d ← valM (lstM (do let d ← valM (readV 5); let ds ← (pure []); pure (d :: ds))); let ds ← (pure []); pure (d :: ds)); pure (d :: ds)); pure (d :: ds)); pure (d :: ds)); pure (d :: ds)); pure (d :: ds)); pure (d :: ds)); pure (d :: ds)); pure (d :: ds)); pure (d :: ds)))) (thenM (setM 7 (op2 addD (toO (op2 addD (readO 7) (toO (c__law_right_0)))) (toO (c__law_right_1)))) (thenM (setM 8 (frzM (iteM (asB (op2 (cmpD .isnotN) (readO 5) (toO (pure ⟨.none, false⟩)))) (readV 5) (readV 6)))) (thenM (setM 7 (op2 addD (readO 7) (toO (c__law_right_2)))) (thenM (forM (enumM (slcM (readO 2) (partM none) (partM (some (toO (pure ⟨.int 4, false⟩)))))) (b__law_right_0)) (thenM (forM (seqM (readV 7)) (b__law_right_1)) (thenM (retM (op2 (cmpD .eq) (toO (op1L reprF (toO (lstM (do let d ← valM (readV 1); let ds ← (do let d ← valM (readV 2); let ds ← (pure []); pure (d :: ds)); pure (d :: ds)))))) (readO 3))) (pure .nx)))))))))
def ps_law : List Str := ["script"]
def N_law : List Str := ["script", "pot", "time", "states", "faces"]
def b_law_0 : PyData → M Fl := bodyM (nameM 2) (thenM (setM 3 (frzM (op2 addD (toO (pure ⟨.int 1, false⟩)) (toO (callPM 1 N__law_draw.length ps__law_draw.length m__law_draw (do let d ← valM (pure ⟨.int 4, false⟩); let ds ← (pure []); pure (d :: ds))))))) (thenM (setM 4 (frzM (callPM 1 N__law_faces.length ps__law_faces.length m__law_faces (do let d ← valM (readV 3); let ds ← (pure []); pure (d :: ds))))) (thenM (ifM (Ev.orM (Ev.notM (asB (callPM 1 N__law_right.length ps__law_right.length m__law_right (do let d ← valM (readV 4); let ds ← (do let d ← valM (callPM 1 N__law_messages.length ps__law_messages.length m__law_messages (do let d ← valM (readV 3); let ds ← (pure []); pure (d :: ds))); let ds ← (pure []); pure (d :: ds)); pure (d :: ds))))) (Ev.notM (asB (callPM 1 N__law_right.length ps__law_right.length m__law_right (do let d ← valM (readV 4); let ds ← (do let d ← valM (op1L tupleF (toO (callM N__law_sets.length ps__law_sets.length m__law_sets (do let d ← valM (readV 3); let ds ← (pure []); pure (d :: ds))))); let ds ← (pure []); pure (d :: ds)); pure (d :: ds)))))) (thenM (retM (pure ⟨.bool false, false⟩)) (pure .nx)) (pure .nx)) (pure .nx))))
def m_law : M Fl := thenM (setM 1 (callM N__law_pot.length ps__law_pot.length m__law_pot (do let d ← valM (readV 0); let ds ← (do let d ← valM (pure ⟨.int 0, false⟩); let ds ← (pure []); pure (d :: ds)); pure (d :: ds)))) (thenM (forM (rng1M (toO (pure ⟨.int 3, false⟩))) (b_law_0)) (thenM (retM (pure ⟨.bool true, false⟩)) (pure .nx)))
end Lw

set_option Elab.async false
set_option linter.all false
set_option maxRecDepth 100000
set_option maxHeartbeats 0
namespace Hd
open PySem PySem.Spec PyProof.Rows L2
abbrev theRow := PySem.Challenge.rw_asktell_k86_any_values_as_ways_and_refus
def top (i : Nat) : Stmt := PySem.Challenge.pw_asktell_k86_any_values_as_ways_and_refus.main.body.getD i (.Pass ⟨0, 0, 0, 0⟩)
def dd (i : Nat) (n : Str) : He.DefD := ⟨(n, none), n, n, defArgs (top i), defBody (top i), defScope (top i), [], []⟩

def fn : List He.DefD := [dd 1 "is_integer", dd 2 "is_position", dd 10 "full_of", dd 11 "does_envy", dd 12 "fit_of", dd 13 "own_of", dd 14 "first_tells", dd 15 "exact_of", dd 16 "first_enviers", dd 17 "sets_by_size", dd 18 "are_short", dd 19 "refusal_of", dd 20 "gains_of", dd 21 "row_is_right", dd 22 "faces_are_right", dd 23 "set_is_right", dd 24 "messages_are_right", dd 25 "way_is_right", dd 26 "enviers_fit", dd 27 "check_faces", dd 28 "check_both", dd 29 "exact_way", dd 30 "refusal", dd 31 "is_exact", dd 32 "is_refusal", dd 34 "_law_pot", dd 35 "_law_draw", dd 36 "_law_pick", dd 37 "_law_sets", dd 38 "_law_faces", dd 39 "_law_messages", dd 40 "_law_fit", dd 41 "_law_own", dd 42 "_law_are_at", dd 43 "_law_is_exact", dd 44 "_law_is_refusal", dd 45 "_law_bent", dd 46 "_law_made", dd 47 "_law_right", dd 48 "law"]
def fa : List He.Fa := [.glo "is_integer", .glo "is_position", .glo "full_of", .glo "does_envy", .glo "fit_of", .glo "own_of", .glo "first_tells", .glo "exact_of", .glo "first_enviers", .glo "sets_by_size", .glo "are_short", .glo "refusal_of", .glo "gains_of", .glo "row_is_right", .glo "faces_are_right", .glo "set_is_right", .glo "messages_are_right", .glo "way_is_right", .glo "enviers_fit", .glo "check_faces", .glo "check_both", .glo "exact_way", .glo "refusal", .glo "is_exact", .glo "is_refusal", .glo "_law_pot", .glo "_law_draw", .glo "_law_pick", .glo "_law_sets", .glo "_law_faces", .glo "_law_messages", .glo "_law_fit", .glo "_law_own", .glo "_law_are_at", .glo "_law_is_exact", .glo "_law_is_refusal", .glo "_law_bent", .glo "_law_made", .glo "_law_right", .glo "law", .free "ValueError", .free "abs", .free "all", .free "any", .free "bool", .free "enumerate", .free "int", .free "isinstance", .free "len", .free "list", .free "max", .free "min", .free "range", .free "repr", .free "set", .free "sorted", .free "str", .free "tuple", .free "zip", .int "MOST_STATES" 4, .int "MOST_WORTH" 99]
def oth0 : List Str := ["AskError", "InvalidFaces", "InvalidMessages", "MOST_STATES", "MOST_WORTH", "is_integer", "is_position", "full_of", "does_envy", "fit_of", "own_of", "first_tells"]
def oth1 : List Str := ["exact_of", "first_enviers", "sets_by_size", "are_short", "refusal_of", "gains_of", "row_is_right", "faces_are_right", "set_is_right", "messages_are_right", "way_is_right", "enviers_fit"]
def oth2 : List Str := ["check_faces", "check_both", "exact_way", "refusal", "is_exact", "is_refusal", "_law_pot", "_law_draw", "_law_pick", "_law_sets", "_law_faces", "_law_messages"]
def oth3 : List Str := ["_law_fit", "_law_own", "_law_are_at", "_law_is_exact", "_law_is_refusal", "_law_bent", "_law_made", "_law_right"]
def oth : List Str := oth0 ++ oth1 ++ oth2 ++ oth3
abbrev R : PySem.W.OpenRow := PySem.W.OpenLaw.row theRow
abbrev hk : PySem.W.Hook := He.hookD 4 fa fn
def ob (s : PySem.W.SharedT) : He.AlD := He.obsDG 4 fa fn (HandSHeadRun.getT s)
theorem ob_eq (s : PySem.W.SharedT) : ob s = hk.obs s.abs := He.obsDG_eq (HandSHeadRun.getT_eq s)
theorem run (w : World) : HandSHeadRun.RunEq R (PySem.W.view R.prog [48]) hk ob 4000 oth w := by
  intro os
  kernel_rfl
end Hd

set_option Elab.async false
set_option linter.all false
set_option maxRecDepth 100000
set_option maxHeartbeats 4000000
namespace Lw
open PySem PySem.Spec L2 Ev
theorem room_u {k : Nat} {A : Around} (r : Room k A) : A.units + 100 < cLine := by have := r.un; omega
theorem room_u64 {k : Nat} {A : Around} (r : Room k A) : A.units + 64 < cLine := by have := r.un; omega
theorem room_u65 {k : Nat} {A : Around} (r : Room k A) : A.units + 65 < cLine := by have := r.un; omega
section
variable {P : Program} {w : World} {K : PySem.W.Frag} {h : Heap} {mg : Str → Option Value}
theorem sc_is_integer : FnScope N_is_integer ps_is_integer (defScope (Hd.top 1)) := ⟨rfl, rfl, rfl, by decide +kernel, rfl, by decide +kernel, by decide +kernel⟩
theorem cal_is_integer (c : He.SaysD Hd.fa Hd.fn K) (X : K.In h) (G : h.Ns mainGlobals mg) : Cal P w K mg 1 "is_integer" ps_is_integer N_is_integer [] m_is_integer := by
  obtain ⟨fd, D⟩ := c.def_ 0 (d := Hd.dd 1 "is_integer") rfl
  have fr_bool : mg "bool" = none := He.free_ok X G (c.fact 44 (f := .free "bool") rfl)
  have fr_int : mg "int" = none := He.free_ok X G (c.fact 46 (f := .free "int") rfl)
  have fr_isinstance : mg "isinstance" = none := He.free_ok X G (c.fact 47 (f := .free "isinstance") rfl)
  refine cal_of (N := N_is_integer) (ps := ps_is_integer) (k := 0) D (He.glo_ok X G (c.fact 0 (f := .glo "is_integer") rfl)) sc_is_integer (fun _ _ _ _ _ _ us hl => match us, hl with | [_], _ => rfl) (fun _ z => nomatch z) (fun base cdv A out s H room gd => ?_)
  · have nd : N_is_integer.Nodup := sc_is_integer.nd
    have u100 := room_u room
    have u64 := room_u64 room
    have u65 := room_u65 room
    exact ss_cons (by exact ss_ret (by exact sv_and (by exact sv_asB (by exact sv_is it_int rfl fr_isinstance rfl fr_int (by exact so_v 0 rfl rfl rfl rfl) rfl rfl rfl)) (by exact pe_one (by exact sv_not (by exact sv_asB (by exact sv_is it_bool rfl fr_isinstance rfl fr_bool (by exact so_v 0 rfl rfl rfl rfl) rfl rfl rfl)))))) (by exact ss_nil)
theorem sc_is_position : FnScope N_is_position ps_is_position (defScope (Hd.top 2)) := ⟨rfl, rfl, rfl, by decide +kernel, rfl, by decide +kernel, by decide +kernel⟩
theorem cal_is_position (c : He.SaysD Hd.fa Hd.fn K) (X : K.In h) (G : h.Ns mainGlobals mg) : Cal P w K mg 2 "is_position" ps_is_position N_is_position [] m_is_position := by
  obtain ⟨fd, D⟩ := c.def_ 1 (d := Hd.dd 2 "is_position") rfl
  have c_is_integer := (cal_is_integer (P := P) (w := w) c X G)
  refine cal_of (N := N_is_position) (ps := ps_is_position) (k := 1) D (He.glo_ok X G (c.fact 1 (f := .glo "is_position") rfl)) sc_is_position (fun _ _ _ _ _ _ us hl => match us, hl with | [_, _], _ => rfl) (fun _ z => nomatch z) (fun base cdv A out s H room gd => ?_)
  · have nd : N_is_position.Nodup := sc_is_position.nd
    have u100 := room_u room
    have u64 := room_u64 room
    have u65 := room_u65 room
    exact ss_cons (by exact ss_ret (by exact sv_and (by exact sv_asB (by exact sv_c c_is_integer room (by first | decide | omega) gd rfl (by exact svs_cons (by exact sv_v 0 rfl rfl rfl rfl) (by exact svs_nil) rfl) rfl rfl rfl)) (by exact pe_one (by exact sv_asB (by exact sv_chain op_le (op_ltA u100) ok_le ok_lt (by exact so_of (by exact sv_int)) (by exact so_v 0 rfl rfl rfl rfl) (by exact so_v 1 rfl rfl rfl rfl) rfl))))) (by exact ss_nil)
theorem sc_full_of : FnScope N_full_of ps_full_of (defScope (Hd.top 10)) := ⟨rfl, rfl, rfl, by decide +kernel, rfl, by decide +kernel, by decide +kernel⟩
theorem cal_full_of (c : He.SaysD Hd.fa Hd.fn K) (X : K.In h) (G : h.Ns mainGlobals mg) : Cal P w K mg 1 "full_of" ps_full_of N_full_of [] m_full_of := by
  obtain ⟨fd, D⟩ := c.def_ 2 (d := Hd.dd 10 "full_of") rfl
  have fr_range : mg "range" = none := He.free_ok X G (c.fact 52 (f := .free "range") rfl)
  have fr_sorted : mg "sorted" = none := He.free_ok X G (c.fact 55 (f := .free "sorted") rfl)
  have fr_tuple : mg "tuple" = none := He.free_ok X G (c.fact 57 (f := .free "tuple") rfl)
  refine cal_of (N := N_full_of) (ps := ps_full_of) (k := 0) D (He.glo_ok X G (c.fact 2 (f := .glo "full_of") rfl)) sc_full_of (fun _ _ _ _ _ _ us hl => match us, hl with | [_], _ => rfl) (fun _ z => nomatch z) (fun base cdv A out s H room gd => ?_)
  · have nd : N_full_of.Nodup := sc_full_of.nd
    have u100 := room_u room
    have u64 := room_u64 room
    have u65 := room_u65 room
    exact ss_cons (by exact g_set 1 nd rfl (by first | exact .inl rfl | exact .inr rfl) (by exact sv_frz (by exact sv_lst (by exact svs_cons (by exact sv_tup (by exact svs_nil)) (by exact svs_nil) rfl))) rfl (.inl rfl)) (by exact ss_cons (by exact g_for false [2] PassesOwn.never rfl (by exact si_rng1 rfl fr_range (by exact so_v 0 rfl rfl rfl rfl) rfl rfl) (by exact sg_name (pg_name nd rfl (by first | exact .inl rfl | exact .inr rfl) (.inl rfl))) (by exact ss_cons (by exact g_set 1 nd rfl (by first | exact .inl rfl | exact .inr rfl) (by exact sv_frz (by exact sv_bin op_addA ok_add (by exact so_v 1 rfl rfl rfl rfl) (by exact so_of (by exact g_lc false [3] [("some", 3)] (by decide) rfl nd (by exact si_seq (by exact sv_v 1 rfl rfl rfl rfl)) (by kernel_rfl) (fun _ _ _ _ _ => by exact sg_name (pg_name nd rfl (by first | exact .inl rfl | exact .inr rfl) (by first | exact .inr rfl | exact .inl rfl))) (fun _ _ _ _ _ => by exact sps_nil) (fun _ _ _ _ _ => by exact sv_bin op_addA ok_add (by exact so_v 3 rfl rfl rfl rfl) (by exact so_of (by exact sv_tup (by exact svs_cons (by exact sv_v 2 rfl rfl rfl rfl) (by exact svs_nil) rfl)))) (fun _ => rfl))))) rfl (.inl rfl)) (by exact ss_nil)) (fun _ => rfl)) (by exact ss_cons (by exact ss_ret (by exact sv_t1 bt_tuple rfl fr_tuple (by exact so_of (by exact sv_b1 (bi_sorted u100) rfl fr_sorted (by exact so_of (by exact g_lc false [3] [("some", 3)] (by decide) rfl nd (by exact si_seq (by exact sv_v 1 rfl rfl rfl rfl)) (by kernel_rfl) (fun _ _ _ _ _ => by exact sg_name (pg_name nd rfl (by first | exact .inl rfl | exact .inr rfl) (by first | exact .inr rfl | exact .inl rfl))) (fun _ _ _ _ _ => by exact sps_one (by exact sb_cmp (op_neA u64) ok_ne (by exact so_v 3 rfl rfl rfl rfl) (by exact so_of (by exact sv_tup (by exact svs_nil))) (nomark _))) (fun _ _ _ _ _ => by exact sv_v 3 rfl rfl rfl rfl) (fun _ => rfl))) rfl rfl)) rfl rfl)) (by exact ss_nil)))
theorem sc_does_envy : FnScope N_does_envy ps_does_envy (defScope (Hd.top 11)) := ⟨rfl, rfl, rfl, by decide +kernel, rfl, by decide +kernel, by decide +kernel⟩
theorem cal_does_envy (c : He.SaysD Hd.fa Hd.fn K) (X : K.In h) (G : h.Ns mainGlobals mg) : Cal P w K mg 1 "does_envy" ps_does_envy N_does_envy [] m_does_envy := by
  obtain ⟨fd, D⟩ := c.def_ 3 (d := Hd.dd 11 "does_envy") rfl
  refine cal_of (N := N_does_envy) (ps := ps_does_envy) (k := 0) D (He.glo_ok X G (c.fact 3 (f := .glo "does_envy") rfl)) sc_does_envy (fun _ _ _ _ _ _ us hl => match us, hl with | [_, _, _], _ => rfl) (fun _ z => nomatch z) (fun base cdv A out s H room gd => ?_)
  · have nd : N_does_envy.Nodup := sc_does_envy.nd
    have u100 := room_u room
    have u64 := room_u64 room
    have u65 := room_u65 room
    exact ss_cons (by exact ss_ret (by exact sv_cmp op_gt ok_gt (by exact so_of (by exact sv_idx (by exact so_of (by exact sv_idx (by exact so_v 0 rfl rfl rfl rfl) (by exact so_v 1 rfl rfl rfl rfl) (fun _ _ => rfl))) (by exact so_v 2 rfl rfl rfl rfl) (fun _ _ => rfl))) (by exact so_of (by exact sv_idx (by exact so_of (by exact sv_idx (by exact so_v 0 rfl rfl rfl rfl) (by exact so_v 1 rfl rfl rfl rfl) (fun _ _ => rfl))) (by exact so_v 1 rfl rfl rfl rfl) (fun _ _ => rfl))) (nomark _))) (by exact ss_nil)
theorem sc_fit_of : FnScope N_fit_of ps_fit_of (defScope (Hd.top 12)) := ⟨rfl, rfl, rfl, by decide +kernel, rfl, by decide +kernel, by decide +kernel⟩
theorem cal_fit_of (c : He.SaysD Hd.fa Hd.fn K) (X : K.In h) (G : h.Ns mainGlobals mg) : Cal P w K mg 2 "fit_of" ps_fit_of N_fit_of [] m_fit_of := by
  obtain ⟨fd, D⟩ := c.def_ 4 (d := Hd.dd 12 "fit_of") rfl
  have fr_any : mg "any" = none := He.free_ok X G (c.fact 43 (f := .free "any") rfl)
  have fr_tuple : mg "tuple" = none := He.free_ok X G (c.fact 57 (f := .free "tuple") rfl)
  have c_does_envy := (cal_does_envy (P := P) (w := w) c X G)
  refine cal_of (N := N_fit_of) (ps := ps_fit_of) (k := 1) D (He.glo_ok X G (c.fact 4 (f := .glo "fit_of") rfl)) sc_fit_of (fun _ _ _ _ _ _ us hl => match us, hl with | [_, _], _ => rfl) (fun _ z => nomatch z) (fun base cdv A out s H room gd => ?_)
  · have nd : N_fit_of.Nodup := sc_fit_of.nd
    have u100 := room_u room
    have u64 := room_u64 room
    have u65 := room_u65 room
    exact ss_cons (by exact ss_ret (by exact sv_t1 bt_tuple rfl fr_tuple (by exact so_of (by exact g_lc false [2] [("state", 2)] (by decide) rfl nd (by exact si_seq (by exact sv_v 1 rfl rfl rfl rfl)) (by kernel_rfl) (fun _ _ _ _ _ => by exact sg_name (pg_name nd rfl (by first | exact .inl rfl | exact .inr rfl) (by first | exact .inr rfl | exact .inl rfl))) (fun _ _ _ _ _ => by exact sps_one (by exact sb_not (by exact sb_val (by exact sv_b1 (bi_any rfl) rfl fr_any (by exact so_of (by exact g_lc false [3] [("one", 3)] (by decide) rfl nd (by exact si_seq (by exact sv_v 1 rfl rfl rfl rfl)) (by kernel_rfl) (fun _ _ _ _ _ => by exact sg_name (pg_name nd rfl (by first | exact .inl rfl | exact .inr rfl) (by first | exact .inr rfl | exact .inl rfl))) (fun _ _ _ _ _ => by exact sps_nil) (fun _ _ _ _ _ => by exact sv_c c_does_envy room (by first | decide | omega) gd rfl (by exact svs_cons (by exact sv_v 0 rfl rfl rfl rfl) (by exact svs_cons (by exact sv_v 3 rfl rfl rfl rfl) (by exact svs_cons (by exact sv_v 2 rfl rfl rfl rfl) (by exact svs_nil) rfl) rfl) rfl) rfl rfl rfl) (fun _ => rfl))) rfl rfl) (fun _ => rfl)))) (fun _ _ _ _ _ => by exact sv_v 2 rfl rfl rfl rfl) (fun _ => rfl))) rfl rfl)) (by exact ss_nil)
theorem sc_own_of : FnScope N_own_of ps_own_of (defScope (Hd.top 13)) := ⟨rfl, rfl, rfl, by decide +kernel, rfl, by decide +kernel, by decide +kernel⟩
theorem cal_own_of (c : He.SaysD Hd.fa Hd.fn K) (X : K.In h) (G : h.Ns mainGlobals mg) : Cal P w K mg 3 "own_of" ps_own_of N_own_of [] m_own_of := by
  obtain ⟨fd, D⟩ := c.def_ 5 (d := Hd.dd 13 "own_of") rfl
  have fr_enumerate : mg "enumerate" = none := He.free_ok X G (c.fact 45 (f := .free "enumerate") rfl)
  have fr_len : mg "len" = none := He.free_ok X G (c.fact 48 (f := .free "len") rfl)
  have fr_range : mg "range" = none := He.free_ok X G (c.fact 52 (f := .free "range") rfl)
  have c_fit_of := (cal_fit_of (P := P) (w := w) c X G)
  refine cal_of (N := N_own_of) (ps := ps_own_of) (k := 2) D (He.glo_ok X G (c.fact 5 (f := .glo "own_of") rfl)) sc_own_of (fun _ _ _ _ _ _ us hl => match us, hl with | [_, _], _ => rfl) (fun _ z => nomatch z) (fun base cdv A out s H room gd => ?_)
  · have nd : N_own_of.Nodup := sc_own_of.nd
    have u100 := room_u room
    have u64 := room_u64 room
    have u65 := room_u65 room
    exact ss_cons (by exact g_set 2 nd rfl (by first | exact .inl rfl | exact .inr rfl) (by exact sv_frz (by exact g_lc false [3] [("message", 3)] (by decide) rfl nd (by exact si_seq (by exact sv_v 1 rfl rfl rfl rfl)) (by kernel_rfl) (fun _ _ _ _ _ => by exact sg_name (pg_name nd rfl (by first | exact .inl rfl | exact .inr rfl) (by first | exact .inr rfl | exact .inl rfl))) (fun _ _ _ _ _ => by exact sps_nil) (fun _ _ _ _ _ => by exact sv_c c_fit_of room (by first | decide | omega) gd rfl (by exact svs_cons (by exact sv_v 0 rfl rfl rfl rfl) (by exact svs_cons (by exact sv_v 3 rfl rfl rfl rfl) (by exact svs_nil) rfl) rfl) rfl rfl rfl) (fun _ => rfl))) rfl (.inl rfl)) (by exact ss_cons (by exact ss_ret (by exact g_lc false [4] [("state", 4)] (by decide) rfl nd (by exact si_rng1 rfl fr_range (by exact so_of (by exact sv_b1 bi_len rfl fr_len (by exact so_v 0 rfl rfl rfl rfl) rfl rfl)) rfl rfl) (by kernel_rfl) (fun _ _ _ _ _ => by exact sg_name (pg_name nd rfl (by first | exact .inl rfl | exact .inr rfl) (by first | exact .inr rfl | exact .inl rfl))) (fun _ _ _ _ _ => by exact sps_nil) (fun _ _ _ _ _ => g_lc true ([5] ++ ([6] ++ [])) [("at", 5), ("fit", 6)] (by decide) rfl nd (by exact si_enm rfl fr_enumerate (by exact sv_v 2 rfl rfl rfl rfl) rfl rfl) (by kernel_rfl) (fun _ _ _ _ _ => by exact sg_tup rfl (by exact sgs_cons (by exact sg_name (pg_name nd rfl (by first | exact .inl rfl | exact .inr rfl) (by first | exact .inr rfl | exact .inl rfl))) (by exact sgs_cons (by exact sg_name (pg_name nd rfl (by first | exact .inl rfl | exact .inr rfl) (by first | exact .inr rfl | exact .inl rfl))) (by exact sgs_nil) rfl) rfl) rfl rfl) (fun _ _ _ _ _ => by exact sps_one (by exact sb_cmp (op_inA u65) ok_in (by exact so_v 4 rfl rfl rfl rfl) (by exact so_v 6 rfl rfl rfl rfl) rfl)) (fun _ _ _ _ _ => by exact sv_v 5 rfl rfl rfl rfl) (fun _ => rfl)) (fun _ => rfl))) (by exact ss_nil))
theorem sc_first_tells : FnScope N_first_tells ps_first_tells (defScope (Hd.top 14)) := ⟨rfl, rfl, rfl, by decide +kernel, rfl, by decide +kernel, by decide +kernel⟩
theorem cal_first_tells (c : He.SaysD Hd.fa Hd.fn K) (X : K.In h) (G : h.Ns mainGlobals mg) : Cal P w K mg 1 "first_tells" ps_first_tells N_first_tells [] m_first_tells := by
  obtain ⟨fd, D⟩ := c.def_ 6 (d := Hd.dd 14 "first_tells") rfl
  have fr_min : mg "min" = none := He.free_ok X G (c.fact 51 (f := .free "min") rfl)
  refine cal_of (N := N_first_tells) (ps := ps_first_tells) (k := 0) D (He.glo_ok X G (c.fact 6 (f := .glo "first_tells") rfl)) sc_first_tells (fun _ _ _ _ _ _ us hl => match us, hl with | [_], _ => rfl) (fun _ z => nomatch z) (fun base cdv A out s H room gd => ?_)
  · have nd : N_first_tells.Nodup := sc_first_tells.nd
    have u100 := room_u room
    have u64 := room_u64 room
    have u65 := room_u65 room
    exact ss_cons (by exact g_set 1 nd rfl (by first | exact .inl rfl | exact .inr rfl) (by exact sv_frz (by exact sv_lst (by exact svs_cons (by exact sv_tup (by exact svs_nil)) (by exact svs_nil) rfl))) rfl (.inl rfl)) (by exact ss_cons (by exact g_for false [2] PassesOwn.never rfl (by exact si_seq (by exact sv_v 0 rfl rfl rfl rfl)) (by exact sg_name (pg_name nd rfl (by first | exact .inl rfl | exact .inr rfl) (.inl rfl))) (by exact ss_cons (by exact g_set 3 nd rfl (by first | exact .inl rfl | exact .inr rfl) (by exact sv_lst (by exact svs_nil)) rfl (.inl rfl)) (by exact ss_cons (by exact g_for false [4] PassesOwn.never rfl (by exact si_seq (by exact sv_v 1 rfl rfl rfl rfl)) (by exact sg_name (pg_name nd rfl (by first | exact .inl rfl | exact .inr rfl) (.inl rfl))) (by exact ss_cons (by exact g_ext 3 (nv 3 rfl rfl rfl rfl) (by exact g_lc false [5] [("at", 5)] (by decide) rfl nd (by exact si_seq (by exact sv_v 2 rfl rfl rfl rfl)) (by kernel_rfl) (fun _ _ _ _ _ => by exact sg_name (pg_name nd rfl (by first | exact .inl rfl | exact .inr rfl) (by first | exact .inr rfl | exact .inl rfl))) (fun _ _ _ _ _ => by exact sps_one (by exact sb_cmp (op_notInA u65) ok_notin (by exact so_v 5 rfl rfl rfl rfl) (by exact so_v 4 rfl rfl rfl rfl) rfl)) (fun _ _ _ _ _ => by exact sv_bin op_addA ok_add (by exact so_v 4 rfl rfl rfl rfl) (by exact so_of (by exact sv_tup (by exact svs_cons (by exact sv_v 5 rfl rfl rfl rfl) (by exact svs_nil) rfl)))) (fun _ => rfl)) ⟨rfl, rfl, rfl, rfl, rfl⟩ rfl) (by exact ss_nil)) (fun _ => rfl)) (by exact ss_cons (by exact g_set 1 nd rfl (by first | exact .inl rfl | exact .inr rfl) (by exact sv_v 3 rfl rfl rfl rfl) rfl (.inl rfl)) (by exact ss_nil)))) (fun _ => rfl)) (by exact ss_cons (by exact ss_ret (by exact sv_ite (by exact sb_cmp (op_neA u64) ok_ne (by exact so_v 1 rfl rfl rfl rfl) (by exact so_of (by exact sv_lst (by exact svs_nil))) (nomark _)) (by exact sv_b1 (bi_min rfl u100) rfl fr_min (by exact so_v 1 rfl rfl rfl rfl) rfl rfl) (by exact sv_non))) (by exact ss_nil)))
theorem sc_exact_of : FnScope N_exact_of ps_exact_of (defScope (Hd.top 15)) := ⟨rfl, rfl, rfl, by decide +kernel, rfl, by decide +kernel, by decide +kernel⟩
theorem cal_exact_of (c : He.SaysD Hd.fa Hd.fn K) (X : K.In h) (G : h.Ns mainGlobals mg) : Cal P w K mg 4 "exact_of" ps_exact_of N_exact_of [] m_exact_of := by
  obtain ⟨fd, D⟩ := c.def_ 7 (d := Hd.dd 15 "exact_of") rfl
  have fr_enumerate : mg "enumerate" = none := He.free_ok X G (c.fact 45 (f := .free "enumerate") rfl)
  have fr_tuple : mg "tuple" = none := He.free_ok X G (c.fact 57 (f := .free "tuple") rfl)
  have c_fit_of := (cal_fit_of (P := P) (w := w) c X G)
  have c_own_of := (cal_own_of (P := P) (w := w) c X G)
  have c_first_tells := (cal_first_tells (P := P) (w := w) c X G)
  refine cal_of (N := N_exact_of) (ps := ps_exact_of) (k := 3) D (He.glo_ok X G (c.fact 7 (f := .glo "exact_of") rfl)) sc_exact_of (fun _ _ _ _ _ _ us hl => match us, hl with | [_, _], _ => rfl) (fun _ z => nomatch z) (fun base cdv A out s H room gd => ?_)
  · have nd : N_exact_of.Nodup := sc_exact_of.nd
    have u100 := room_u room
    have u64 := room_u64 room
    have u65 := room_u65 room
    exact ss_cons (by exact g_setLcF false 2 [5] [("message", 5)] (by decide) rfl nd rfl rfl rfl (by exact si_seq (by exact sv_v 1 rfl rfl rfl rfl)) (by kernel_rfl) (fun _ _ _ _ _ => by exact sg_name (pg_name nd rfl (by first | exact .inl rfl | exact .inr rfl) (by first | exact .inr rfl | exact .inl rfl))) (fun _ _ _ _ _ => by exact sps_nil) (fun _ _ _ _ _ => by exact sv_c c_fit_of room (by first | decide | omega) gd rfl (by exact svs_cons (by exact sv_v 0 rfl rfl rfl rfl) (by exact svs_cons (by exact sv_v 5 rfl rfl rfl rfl) (by exact svs_nil) rfl) rfl) rfl rfl rfl) (fun _ => rfl)) (by exact ss_cons (by exact ss_if (by exact sb_cmp (op_inA u65) ok_in (by exact so_of (by exact sv_tup (by exact svs_nil))) (by exact so_v 2 rfl rfl rfl rfl) rfl) (by exact ss_cons (by exact ss_ret (by exact sv_non)) (by exact ss_nil)) (by exact ss_nil)) (by exact ss_cons (by exact g_set 3 nd rfl (by first | exact .inl rfl | exact .inr rfl) (by exact sv_frz (by exact sv_c c_first_tells room (by first | decide | omega) gd rfl (by exact svs_cons (by exact sv_c c_own_of room (by first | decide | omega) gd rfl (by exact svs_cons (by exact sv_v 0 rfl rfl rfl rfl) (by exact svs_cons (by exact sv_v 1 rfl rfl rfl rfl) (by exact svs_nil) rfl) rfl) rfl rfl rfl) (by exact svs_nil) rfl) rfl rfl rfl)) rfl (.inl rfl)) (by exact ss_cons (by exact ss_if (by exact sb_cmp op_isN ok_isN (by exact so_v 3 rfl rfl rfl rfl) (by exact so_of (by exact sv_non)) (nomark _)) (by exact ss_cons (by exact ss_ret (by exact sv_non)) (by exact ss_nil)) (by exact ss_nil)) (by exact ss_cons (by exact g_setLcF true 4 ([6] ++ ([7] ++ [])) [("at", 6), ("fit", 7)] (by decide) rfl nd rfl rfl rfl (by exact si_enm rfl fr_enumerate (by exact sv_v 2 rfl rfl rfl rfl) rfl rfl) (by kernel_rfl) (fun _ _ _ _ _ => by exact sg_tup rfl (by exact sgs_cons (by exact sg_name (pg_name nd rfl (by first | exact .inl rfl | exact .inr rfl) (by first | exact .inr rfl | exact .inl rfl))) (by exact sgs_cons (by exact sg_name (pg_name nd rfl (by first | exact .inl rfl | exact .inr rfl) (by first | exact .inr rfl | exact .inl rfl))) (by exact sgs_nil) rfl) rfl) rfl rfl) (fun _ _ _ _ _ => by exact sps_nil) (fun _ _ _ _ _ => by exact sv_ite (by exact sb_cmp (op_inA u65) ok_in (by exact so_v 6 rfl rfl rfl rfl) (by exact so_v 3 rfl rfl rfl rfl) rfl) (by exact sv_index u100 (by exact so_v 3 rfl rfl rfl rfl) (by exact so_v 6 rfl rfl rfl rfl) ⟨rfl, rfl, rfl, rfl, rfl⟩ rfl) (by exact sv_idx (by exact so_v 7 rfl rfl rfl rfl) (by exact so_of (by exact sv_int)) (fun _ _ => rfl))) (fun _ => rfl)) (by exact ss_cons (by exact ss_ret (by exact sv_tup (by exact svs_cons (by exact sv_v 3 rfl rfl rfl rfl) (by exact svs_cons (by exact sv_t1 bt_tuple rfl fr_tuple (by exact so_v 4 rfl rfl rfl rfl) rfl rfl) (by exact svs_nil) rfl) rfl))) (by exact ss_nil))))))
theorem sc_first_enviers : FnScope N_first_enviers ps_first_enviers (defScope (Hd.top 16)) := ⟨rfl, rfl, rfl, by decide +kernel, rfl, by decide +kernel, by decide +kernel⟩
theorem cal_first_enviers (c : He.SaysD Hd.fa Hd.fn K) (X : K.In h) (G : h.Ns mainGlobals mg) : Cal P w K mg 2 "first_enviers" ps_first_enviers N_first_enviers [] m_first_enviers := by
  obtain ⟨fd, D⟩ := c.def_ 8 (d := Hd.dd 16 "first_enviers") rfl
  have fr_tuple : mg "tuple" = none := He.free_ok X G (c.fact 57 (f := .free "tuple") rfl)
  have c_does_envy := (cal_does_envy (P := P) (w := w) c X G)
  refine cal_of (N := N_first_enviers) (ps := ps_first_enviers) (k := 1) D (He.glo_ok X G (c.fact 8 (f := .glo "first_enviers") rfl)) sc_first_enviers (fun _ _ _ _ _ _ us hl => match us, hl with | [_, _], _ => rfl) (fun _ z => nomatch z) (fun base cdv A out s H room gd => ?_)
  · have nd : N_first_enviers.Nodup := sc_first_enviers.nd
    have u100 := room_u room
    have u64 := room_u64 room
    have u65 := room_u65 room
    exact ss_cons (by exact ss_ret (by exact sv_t1 bt_tuple rfl fr_tuple (by exact so_of (by exact g_lc false [2] [("state", 2)] (by decide) rfl nd (by exact si_seq (by exact sv_v 1 rfl rfl rfl rfl)) (by kernel_rfl) (fun _ _ _ _ _ => by exact sg_name (pg_name nd rfl (by first | exact .inl rfl | exact .inr rfl) (by first | exact .inr rfl | exact .inl rfl))) (fun _ _ _ _ _ => by exact sps_nil) (fun _ _ _ _ _ => by exact sv_idx (by exact so_of (by exact g_lc false [3] [("one", 3)] (by decide) rfl nd (by exact si_seq (by exact sv_v 1 rfl rfl rfl rfl)) (by kernel_rfl) (fun _ _ _ _ _ => by exact sg_name (pg_name nd rfl (by first | exact .inl rfl | exact .inr rfl) (by first | exact .inr rfl | exact .inl rfl))) (fun _ _ _ _ _ => by exact sps_one (by exact sb_val (by exact sv_c c_does_envy room (by first | decide | omega) gd rfl (by exact svs_cons (by exact sv_v 0 rfl rfl rfl rfl) (by exact svs_cons (by exact sv_v 3 rfl rfl rfl rfl) (by exact svs_cons (by exact sv_v 2 rfl rfl rfl rfl) (by exact svs_nil) rfl) rfl) rfl) rfl rfl rfl) (fun _ => rfl))) (fun _ _ _ _ _ => by exact sv_v 3 rfl rfl rfl rfl) (fun _ => rfl))) (by exact so_of (by exact sv_int)) (fun _ _ => rfl)) (fun _ => rfl))) rfl rfl)) (by exact ss_nil)
theorem sc_sets_by_size : FnScope N_sets_by_size ps_sets_by_size (defScope (Hd.top 17)) := ⟨rfl, rfl, rfl, by decide +kernel, rfl, by decide +kernel, by decide +kernel⟩
theorem cal_sets_by_size (c : He.SaysD Hd.fa Hd.fn K) (X : K.In h) (G : h.Ns mainGlobals mg) : Cal P w K mg 2 "sets_by_size" ps_sets_by_size N_sets_by_size [] m_sets_by_size := by
  obtain ⟨fd, D⟩ := c.def_ 9 (d := Hd.dd 17 "sets_by_size") rfl
  have fr_len : mg "len" = none := He.free_ok X G (c.fact 48 (f := .free "len") rfl)
  have fr_sorted : mg "sorted" = none := He.free_ok X G (c.fact 55 (f := .free "sorted") rfl)
  have c_full_of := (cal_full_of (P := P) (w := w) c X G)
  refine cal_of (N := N_sets_by_size) (ps := ps_sets_by_size) (k := 1) D (He.glo_ok X G (c.fact 9 (f := .glo "sets_by_size") rfl)) sc_sets_by_size (fun _ _ _ _ _ _ us hl => match us, hl with | [_], _ => rfl) (fun _ z => nomatch z) (fun base cdv A out s H room gd => ?_)
  · have nd : N_sets_by_size.Nodup := sc_sets_by_size.nd
    have u100 := room_u room
    have u64 := room_u64 room
    have u65 := room_u65 room
    exact ss_cons (by exact ss_ret (by exact g_lc false ([1] ++ ([2] ++ [])) [("many", 1), ("some", 2)] (by decide) rfl nd (by exact si_seq (by exact sv_b1 (bi_sorted u100) rfl fr_sorted (by exact so_of (by exact g_lc false [2] [("some", 2)] (by decide) rfl nd (by exact si_seq (by exact sv_c c_full_of room (by first | decide | omega) gd rfl (by exact svs_cons (by exact sv_v 0 rfl rfl rfl rfl) (by exact svs_nil) rfl) rfl rfl rfl)) (by kernel_rfl) (fun _ _ _ _ _ => by exact sg_name (pg_name nd rfl (by first | exact .inl rfl | exact .inr rfl) (by first | exact .inr rfl | exact .inl rfl))) (fun _ _ _ _ _ => by exact sps_nil) (fun _ _ _ _ _ => by exact sv_tup (by exact svs_cons (by exact sv_b1 bi_len rfl fr_len (by exact so_v 2 rfl rfl rfl rfl) rfl rfl) (by exact svs_cons (by exact sv_v 2 rfl rfl rfl rfl) (by exact svs_nil) rfl) rfl)) (fun _ => rfl))) rfl rfl)) (by kernel_rfl) (fun _ _ _ _ _ => by exact sg_tup rfl (by exact sgs_cons (by exact sg_name (pg_name nd rfl (by first | exact .inl rfl | exact .inr rfl) (by first | exact .inr rfl | exact .inl rfl))) (by exact sgs_cons (by exact sg_name (pg_name nd rfl (by first | exact .inl rfl | exact .inr rfl) (by first | exact .inr rfl | exact .inl rfl))) (by exact sgs_nil) rfl) rfl) rfl rfl) (fun _ _ _ _ _ => by exact sps_nil) (fun _ _ _ _ _ => by exact sv_v 2 rfl rfl rfl rfl) (fun _ => rfl))) (by exact ss_nil)
theorem sc_are_short : FnScope N_are_short ps_are_short (defScope (Hd.top 18)) := ⟨rfl, rfl, rfl, by decide +kernel, rfl, by decide +kernel, by decide +kernel⟩
theorem cal_are_short (c : He.SaysD Hd.fa Hd.fn K) (X : K.In h) (G : h.Ns mainGlobals mg) : Cal P w K mg 1 "are_short" ps_are_short N_are_short [] m_are_short := by
  obtain ⟨fd, D⟩ := c.def_ 10 (d := Hd.dd 18 "are_short") rfl
  have fr_len : mg "len" = none := He.free_ok X G (c.fact 48 (f := .free "len") rfl)
  have fr_set : mg "set" = none := He.free_ok X G (c.fact 54 (f := .free "set") rfl)
  refine cal_of (N := N_are_short) (ps := ps_are_short) (k := 0) D (He.glo_ok X G (c.fact 10 (f := .glo "are_short") rfl)) sc_are_short (fun _ _ _ _ _ _ us hl => match us, hl with | [_, _], _ => rfl) (fun _ z => nomatch z) (fun base cdv A out s H room gd => ?_)
  · have nd : N_are_short.Nodup := sc_are_short.nd
    have u100 := room_u room
    have u64 := room_u64 room
    have u65 := room_u65 room
    exact ss_cons (by exact g_set 2 nd rfl (by first | exact .inl rfl | exact .inr rfl) (by exact sv_lst (by exact svs_nil)) rfl (.inl rfl)) (by exact ss_cons (by exact g_for false [3] PassesOwn.never rfl (by exact si_seq (by exact sv_v 1 rfl rfl rfl rfl)) (by exact sg_name (pg_name nd rfl (by first | exact .inl rfl | exact .inr rfl) (.inl rfl))) (by exact ss_cons (by exact g_ext 2 (nv 2 rfl rfl rfl rfl) (by exact sv_idx (by exact so_v 0 rfl rfl rfl rfl) (by exact so_v 3 rfl rfl rfl rfl) (fun _ _ => rfl)) ⟨rfl, rfl, rfl, rfl, rfl⟩ rfl) (by exact ss_nil)) (fun _ => rfl)) (by exact ss_cons (by exact ss_ret (by exact sv_cmp (op_ltA u100) ok_lt (by exact so_of (by exact sv_lenSet rfl rfl fr_len rfl fr_set (by exact so_v 2 rfl rfl rfl rfl) rfl rfl rfl rfl)) (by exact so_of (by exact sv_b1 bi_len rfl fr_len (by exact so_v 1 rfl rfl rfl rfl) rfl rfl)) (nomark _))) (by exact ss_nil)))
theorem sc_refusal_of : FnScope N_refusal_of ps_refusal_of (defScope (Hd.top 19)) := ⟨rfl, rfl, rfl, by decide +kernel, rfl, by decide +kernel, by decide +kernel⟩
theorem cal_refusal_of (c : He.SaysD Hd.fa Hd.fn K) (X : K.In h) (G : h.Ns mainGlobals mg) : Cal P w K mg 4 "refusal_of" ps_refusal_of N_refusal_of [] m_refusal_of := by
  obtain ⟨fd, D⟩ := c.def_ 11 (d := Hd.dd 19 "refusal_of") rfl
  have fr_enumerate : mg "enumerate" = none := He.free_ok X G (c.fact 45 (f := .free "enumerate") rfl)
  have fr_len : mg "len" = none := He.free_ok X G (c.fact 48 (f := .free "len") rfl)
  have c_fit_of := (cal_fit_of (P := P) (w := w) c X G)
  have c_own_of := (cal_own_of (P := P) (w := w) c X G)
  have c_first_enviers := (cal_first_enviers (P := P) (w := w) c X G)
  have c_sets_by_size := (cal_sets_by_size (P := P) (w := w) c X G)
  have c_are_short := (cal_are_short (P := P) (w := w) c X G)
  refine cal_of (N := N_refusal_of) (ps := ps_refusal_of) (k := 3) D (He.glo_ok X G (c.fact 11 (f := .glo "refusal_of") rfl)) sc_refusal_of (fun _ _ _ _ _ _ us hl => match us, hl with | [_, _], _ => rfl) (fun _ z => nomatch z) (fun base cdv A out s H room gd => ?_)
  · have nd : N_refusal_of.Nodup := sc_refusal_of.nd
    have u100 := room_u room
    have u64 := room_u64 room
    have u65 := room_u65 room
    exact ss_cons (by exact g_for true ([2] ++ ([3] ++ [])) PassesOwn.never rfl (by exact si_enm rfl fr_enumerate (by exact sv_v 1 rfl rfl rfl rfl) rfl rfl) (by exact sg_tup rfl (by exact sgs_cons (by exact sg_name (pg_name nd rfl (by first | exact .inl rfl | exact .inr rfl) (.inl rfl))) (by exact sgs_cons (by exact sg_name (pg_name nd rfl (by first | exact .inl rfl | exact .inr rfl) (.inl rfl))) (by exact sgs_nil) rfl) rfl) rfl rfl) (by exact ss_cons (by exact ss_if (by exact sb_cmp (op_eqA u64) ok_eq (by exact so_of (by exact sv_c c_fit_of room (by first | decide | omega) gd rfl (by exact svs_cons (by exact sv_v 0 rfl rfl rfl rfl) (by exact svs_cons (by exact sv_v 3 rfl rfl rfl rfl) (by exact svs_nil) rfl) rfl) rfl rfl rfl)) (by exact so_of (by exact sv_tup (by exact svs_nil))) (nomark _)) (by exact ss_cons (by exact ss_ret (by exact sv_tup (by exact svs_cons (by exact sv_str) (by exact svs_cons (by exact sv_v 2 rfl rfl rfl rfl) (by exact svs_cons (by exact sv_c c_first_enviers room (by first | decide | omega) gd rfl (by exact svs_cons (by exact sv_v 0 rfl rfl rfl rfl) (by exact svs_cons (by exact sv_v 3 rfl rfl rfl rfl) (by exact svs_nil) rfl) rfl) rfl rfl rfl) (by exact svs_nil) rfl) rfl) rfl))) (by exact ss_nil)) (by exact ss_nil)) (by exact ss_nil)) (fun _ => rfl)) (by exact ss_cons (by exact g_set 4 nd rfl (by first | exact .inl rfl | exact .inr rfl) (by exact sv_frz (by exact sv_c c_own_of room (by first | decide | omega) gd rfl (by exact svs_cons (by exact sv_v 0 rfl rfl rfl rfl) (by exact svs_cons (by exact sv_v 1 rfl rfl rfl rfl) (by exact svs_nil) rfl) rfl) rfl rfl rfl)) rfl (.inl rfl)) (by exact ss_cons (by exact g_for false [5] PassesOwn.never rfl (by exact si_seq (by exact sv_c c_sets_by_size room (by first | decide | omega) gd rfl (by exact svs_cons (by exact sv_b1 bi_len rfl fr_len (by exact so_v 0 rfl rfl rfl rfl) rfl rfl) (by exact svs_nil) rfl) rfl rfl rfl)) (by exact sg_name (pg_name nd rfl (by first | exact .inl rfl | exact .inr rfl) (.inl rfl))) (by exact ss_cons (by exact ss_if (by exact sb_val (by exact sv_c c_are_short room (by first | decide | omega) gd rfl (by exact svs_cons (by exact sv_v 4 rfl rfl rfl rfl) (by exact svs_cons (by exact sv_v 5 rfl rfl rfl rfl) (by exact svs_nil) rfl) rfl) rfl rfl rfl) (fun _ => rfl)) (by exact ss_cons (by exact ss_ret (by exact sv_tup (by exact svs_cons (by exact sv_str) (by exact svs_cons (by exact sv_v 5 rfl rfl rfl rfl) (by exact svs_nil) rfl) rfl))) (by exact ss_nil)) (by exact ss_nil)) (by exact ss_nil)) (fun _ => rfl)) (by exact ss_cons (by exact ss_ret (by exact sv_non)) (by exact ss_nil))))
theorem sc_gains_of : FnScope N_gains_of ps_gains_of (defScope (Hd.top 20)) := ⟨rfl, rfl, rfl, by decide +kernel, rfl, by decide +kernel, by decide +kernel⟩
theorem cal_gains_of (c : He.SaysD Hd.fa Hd.fn K) (X : K.In h) (G : h.Ns mainGlobals mg) : Cal P w K mg 1 "gains_of" ps_gains_of N_gains_of [] m_gains_of := by
  obtain ⟨fd, D⟩ := c.def_ 12 (d := Hd.dd 20 "gains_of") rfl
  have fr_enumerate : mg "enumerate" = none := He.free_ok X G (c.fact 45 (f := .free "enumerate") rfl)
  have fr_len : mg "len" = none := He.free_ok X G (c.fact 48 (f := .free "len") rfl)
  have fr_range : mg "range" = none := He.free_ok X G (c.fact 52 (f := .free "range") rfl)
  refine cal_of (N := N_gains_of) (ps := ps_gains_of) (k := 0) D (He.glo_ok X G (c.fact 12 (f := .glo "gains_of") rfl)) sc_gains_of (fun _ _ _ _ _ _ us hl => match us, hl with | [_, _, _], _ => rfl) (fun _ z => nomatch z) (fun base cdv A out s H room gd => ?_)
  · have nd : N_gains_of.Nodup := sc_gains_of.nd
    have u100 := room_u room
    have u64 := room_u64 room
    have u65 := room_u65 room
    exact ss_cons (by exact g_bind ([3] ++ ([4] ++ [])) (by exact sv_v 2 rfl rfl rfl rfl) (by exact sg_tup rfl (by exact sgs_cons (by exact sg_name (pg_name nd rfl (by first | exact .inl rfl | exact .inr rfl) (.inl rfl))) (by exact sgs_cons (by exact sg_name (pg_name nd rfl (by first | exact .inl rfl | exact .inr rfl) (.inl rfl))) (by exact sgs_nil) rfl) rfl) rfl rfl) rfl rfl rfl) (by exact ss_cons (by exact g_set 5 nd rfl (by first | exact .inl rfl | exact .inr rfl) (by exact sv_lst (by exact svs_nil)) rfl (.inl rfl)) (by exact ss_cons (by exact g_for false [6] PassesOwn.never rfl (by exact si_rng1 rfl fr_range (by exact so_of (by exact sv_b1 bi_len rfl fr_len (by exact so_v 0 rfl rfl rfl rfl) rfl rfl)) rfl rfl) (by exact sg_name (pg_name nd rfl (by first | exact .inl rfl | exact .inr rfl) (.inl rfl))) (by exact ss_cons (by exact g_set 7 nd rfl (by first | exact .inl rfl | exact .inr rfl) (by exact sv_idx (by exact so_of (by exact sv_idx (by exact so_v 0 rfl rfl rfl rfl) (by exact so_v 6 rfl rfl rfl rfl) (fun _ _ => rfl))) (by exact so_of (by exact sv_idx (by exact so_v 4 rfl rfl rfl rfl) (by exact so_of (by exact sv_idx (by exact so_v 3 rfl rfl rfl rfl) (by exact so_v 6 rfl rfl rfl rfl) (fun _ _ => rfl))) (fun _ _ => rfl))) (fun _ _ => rfl)) rfl (.inl rfl)) (by exact ss_cons (by exact g_for true ([8] ++ ([9] ++ [])) PassesOwn.never rfl (by exact si_enm rfl fr_enumerate (by exact sv_v 1 rfl rfl rfl rfl) rfl rfl) (by exact sg_tup rfl (by exact sgs_cons (by exact sg_name (pg_name nd rfl (by first | exact .inl rfl | exact .inr rfl) (.inl rfl))) (by exact sgs_cons (by exact sg_name (pg_name nd rfl (by first | exact .inl rfl | exact .inr rfl) (.inl rfl))) (by exact sgs_nil) rfl) rfl) rfl rfl) (by exact ss_cons (by exact ss_if (by exact g_pt (by exact sw_and (by exact sb_cmp (op_inA u65) ok_in (by exact so_v 6 rfl rfl rfl rfl) (by exact so_v 9 rfl rfl rfl rfl) rfl) (by exact pw_and1 (by exact sb_cmp op_gt ok_gt (by exact so_of (by exact sv_idx (by exact so_of (by exact sv_idx (by exact so_v 0 rfl rfl rfl rfl) (by exact so_v 6 rfl rfl rfl rfl) (fun _ _ => rfl))) (by exact so_of (by exact sv_idx (by exact so_v 4 rfl rfl rfl rfl) (by exact so_v 8 rfl rfl rfl rfl) (fun _ _ => rfl))) (fun _ _ => rfl))) (by exact so_v 7 rfl rfl rfl rfl) (nomark _))))) (by exact ss_cons (by exact g_app 5 (nv 5 rfl rfl rfl rfl) (by exact sv_tup (by exact svs_cons (by exact sv_v 6 rfl rfl rfl rfl) (by exact svs_cons (by exact sv_v 8 rfl rfl rfl rfl) (by exact svs_nil) rfl) rfl)) ⟨rfl, rfl, rfl, rfl, rfl⟩ rfl) (by exact ss_nil)) (by exact ss_nil)) (by exact ss_nil)) (fun _ => rfl)) (by exact ss_nil))) (fun _ => rfl)) (by exact ss_cons (by exact ss_retv (nv 5 rfl rfl rfl rfl)) (by exact ss_nil))))
theorem sc_row_is_right : FnScope N_row_is_right ps_row_is_right (defScope (Hd.top 21)) := ⟨rfl, rfl, rfl, by decide +kernel, rfl, by decide +kernel, by decide +kernel⟩
theorem cal_row_is_right (c : He.SaysD Hd.fa Hd.fn K) (X : K.In h) (G : h.Ns mainGlobals mg) : Cal P w K mg 2 "row_is_right" ps_row_is_right N_row_is_right [] m_row_is_right := by
  obtain ⟨fd, D⟩ := c.def_ 13 (d := Hd.dd 21 "row_is_right") rfl
  have fr_all : mg "all" = none := He.free_ok X G (c.fact 42 (f := .free "all") rfl)
  have fr_isinstance : mg "isinstance" = none := He.free_ok X G (c.fact 47 (f := .free "isinstance") rfl)
  have fr_len : mg "len" = none := He.free_ok X G (c.fact 48 (f := .free "len") rfl)
  have fr_tuple : mg "tuple" = none := He.free_ok X G (c.fact 57 (f := .free "tuple") rfl)
  have gi_MOST_WORTH : ∃ t, mg "MOST_WORTH" = some (.int 99 t) := He.int_ok X G (c.fact 60 (f := .int "MOST_WORTH" 99) rfl)
  have c_is_integer := (cal_is_integer (P := P) (w := w) c X G)
  refine cal_of (N := N_row_is_right) (ps := ps_row_is_right) (k := 1) D (He.glo_ok X G (c.fact 13 (f := .glo "row_is_right") rfl)) sc_row_is_right (fun _ _ _ _ _ _ us hl => match us, hl with | [_, _], _ => rfl) (fun _ z => nomatch z) (fun base cdv A out s H room gd => ?_)
  · have nd : N_row_is_right.Nodup := sc_row_is_right.nd
    have u100 := room_u room
    have u64 := room_u64 room
    have u65 := room_u65 room
    exact ss_cons (by exact ss_if (by exact g_pt (by exact sw_or (by exact sb_not (by exact sb_val (by exact sv_is it_tuple rfl fr_isinstance rfl fr_tuple (by exact so_v 0 rfl rfl rfl rfl) rfl rfl rfl) (fun _ => rfl))) (by exact pw_or1 (by exact sb_cmp (op_neA u64) ok_ne (by exact so_of (by exact sv_b1 bi_len rfl fr_len (by exact so_v 0 rfl rfl rfl rfl) rfl rfl)) (by exact so_v 1 rfl rfl rfl rfl) (nomark _))))) (by exact ss_cons (by exact ss_ret (by exact sv_bl)) (by exact ss_nil)) (by exact ss_nil)) (by exact ss_cons (by exact ss_ret (by exact sv_b1 (bi_all rfl) rfl fr_all (by exact so_of (by exact g_lc false [2] [("number", 2)] (by decide) rfl nd (by exact si_seq (by exact sv_v 0 rfl rfl rfl rfl)) (by kernel_rfl) (fun _ _ _ _ _ => by exact sg_name (pg_name nd rfl (by first | exact .inl rfl | exact .inr rfl) (by first | exact .inr rfl | exact .inl rfl))) (fun _ _ _ _ _ => by exact sps_nil) (fun _ _ _ _ _ => by exact sv_and (by exact sv_asB (by exact sv_c c_is_integer room (by first | decide | omega) gd rfl (by exact svs_cons (by exact sv_v 2 rfl rfl rfl rfl) (by exact svs_nil) rfl) rfl rfl rfl)) (by exact pe_one (by exact sv_asB (by exact sv_chain op_le op_le ok_le ok_le (by exact so_of (by exact sv_neg (by exact so_of (by exact sv_gint rfl gi_MOST_WORTH rfl)))) (by exact so_v 2 rfl rfl rfl rfl) (by exact so_of (by exact sv_gint rfl gi_MOST_WORTH rfl)) rfl)))) (fun _ => rfl))) rfl rfl)) (by exact ss_nil))
theorem sc_faces_are_right : FnScope N_faces_are_right ps_faces_are_right (defScope (Hd.top 22)) := ⟨rfl, rfl, rfl, by decide +kernel, rfl, by decide +kernel, by decide +kernel⟩
theorem cal_faces_are_right (c : He.SaysD Hd.fa Hd.fn K) (X : K.In h) (G : h.Ns mainGlobals mg) : Cal P w K mg 3 "faces_are_right" ps_faces_are_right N_faces_are_right [] m_faces_are_right := by
  obtain ⟨fd, D⟩ := c.def_ 14 (d := Hd.dd 22 "faces_are_right") rfl
  have fr_all : mg "all" = none := He.free_ok X G (c.fact 42 (f := .free "all") rfl)
  have fr_isinstance : mg "isinstance" = none := He.free_ok X G (c.fact 47 (f := .free "isinstance") rfl)
  have fr_len : mg "len" = none := He.free_ok X G (c.fact 48 (f := .free "len") rfl)
  have fr_tuple : mg "tuple" = none := He.free_ok X G (c.fact 57 (f := .free "tuple") rfl)
  have gi_MOST_STATES : ∃ t, mg "MOST_STATES" = some (.int 4 t) := He.int_ok X G (c.fact 59 (f := .int "MOST_STATES" 4) rfl)
  have c_row_is_right := (cal_row_is_right (P := P) (w := w) c X G)
  refine cal_of (N := N_faces_are_right) (ps := ps_faces_are_right) (k := 2) D (He.glo_ok X G (c.fact 14 (f := .glo "faces_are_right") rfl)) sc_faces_are_right (fun _ _ _ _ _ _ us hl => match us, hl with | [_], _ => rfl) (fun _ z => nomatch z) (fun base cdv A out s H room gd => ?_)
  · have nd : N_faces_are_right.Nodup := sc_faces_are_right.nd
    have u100 := room_u room
    have u64 := room_u64 room
    have u65 := room_u65 room
    exact ss_cons (by exact ss_if (by exact g_pt (by exact sw_or (by exact sb_not (by exact sb_val (by exact sv_is it_tuple rfl fr_isinstance rfl fr_tuple (by exact so_v 0 rfl rfl rfl rfl) rfl rfl rfl) (fun _ => rfl))) (by exact pw_or1 (by exact sb_not (by exact sb_chain op_le op_le ok_le ok_le (by exact so_of (by exact sv_int)) (by exact so_of (by exact sv_b1 bi_len rfl fr_len (by exact so_v 0 rfl rfl rfl rfl) rfl rfl)) (by exact so_of (by exact sv_gint rfl gi_MOST_STATES rfl)) rfl))))) (by exact ss_cons (by exact ss_ret (by exact sv_bl)) (by exact ss_nil)) (by exact ss_nil)) (by exact ss_cons (by exact ss_ret (by exact sv_b1 (bi_all rfl) rfl fr_all (by exact so_of (by exact g_lc false [1] [("row", 1)] (by decide) rfl nd (by exact si_seq (by exact sv_v 0 rfl rfl rfl rfl)) (by kernel_rfl) (fun _ _ _ _ _ => by exact sg_name (pg_name nd rfl (by first | exact .inl rfl | exact .inr rfl) (by first | exact .inr rfl | exact .inl rfl))) (fun _ _ _ _ _ => by exact sps_nil) (fun _ _ _ _ _ => by exact sv_c c_row_is_right room (by first | decide | omega) gd rfl (by exact svs_cons (by exact sv_v 1 rfl rfl rfl rfl) (by exact svs_cons (by exact sv_b1 bi_len rfl fr_len (by exact so_v 0 rfl rfl rfl rfl) rfl rfl) (by exact svs_nil) rfl) rfl) rfl rfl rfl) (fun _ => rfl))) rfl rfl)) (by exact ss_nil))
theorem sc_set_is_right : FnScope N_set_is_right ps_set_is_right (defScope (Hd.top 23)) := ⟨rfl, rfl, rfl, by decide +kernel, rfl, by decide +kernel, by decide +kernel⟩
theorem cal_set_is_right (c : He.SaysD Hd.fa Hd.fn K) (X : K.In h) (G : h.Ns mainGlobals mg) : Cal P w K mg 3 "set_is_right" ps_set_is_right N_set_is_right [] m_set_is_right := by
  obtain ⟨fd, D⟩ := c.def_ 15 (d := Hd.dd 23 "set_is_right") rfl
  have fr_all : mg "all" = none := He.free_ok X G (c.fact 42 (f := .free "all") rfl)
  have fr_isinstance : mg "isinstance" = none := He.free_ok X G (c.fact 47 (f := .free "isinstance") rfl)
  have fr_tuple : mg "tuple" = none := He.free_ok X G (c.fact 57 (f := .free "tuple") rfl)
  have fr_zip : mg "zip" = none := He.free_ok X G (c.fact 58 (f := .free "zip") rfl)
  have c_is_position := (cal_is_position (P := P) (w := w) c X G)
  refine cal_of (N := N_set_is_right) (ps := ps_set_is_right) (k := 2) D (He.glo_ok X G (c.fact 15 (f := .glo "set_is_right") rfl)) sc_set_is_right (fun _ _ _ _ _ _ us hl => match us, hl with | [_, _], _ => rfl) (fun _ z => nomatch z) (fun base cdv A out s H room gd => ?_)
  · have nd : N_set_is_right.Nodup := sc_set_is_right.nd
    have u100 := room_u room
    have u64 := room_u64 room
    have u65 := room_u65 room
    exact ss_cons (by exact ss_if (by exact g_pt (by exact sw_or (by exact sb_not (by exact sb_val (by exact sv_is it_tuple rfl fr_isinstance rfl fr_tuple (by exact so_v 0 rfl rfl rfl rfl) rfl rfl rfl) (fun _ => rfl))) (by exact sw_or (by exact sb_cmp (op_eqA u64) ok_eq (by exact so_v 0 rfl rfl rfl rfl) (by exact so_of (by exact sv_tup (by exact svs_nil))) (nomark _)) (by exact pw_or1 (by exact sb_not (by exact sb_val (by exact sv_b1 (bi_all rfl) rfl fr_all (by exact so_of (by exact g_lc false [2] [("state", 2)] (by decide) rfl nd (by exact si_seq (by exact sv_v 0 rfl rfl rfl rfl)) (by kernel_rfl) (fun _ _ _ _ _ => by exact sg_name (pg_name nd rfl (by first | exact .inl rfl | exact .inr rfl) (by first | exact .inr rfl | exact .inl rfl))) (fun _ _ _ _ _ => by exact sps_nil) (fun _ _ _ _ _ => by exact sv_c c_is_position room (by first | decide | omega) gd rfl (by exact svs_cons (by exact sv_v 2 rfl rfl rfl rfl) (by exact svs_cons (by exact sv_v 1 rfl rfl rfl rfl) (by exact svs_nil) rfl) rfl) rfl rfl rfl) (fun _ => rfl))) rfl rfl) (fun _ => rfl))))))) (by exact ss_cons (by exact ss_ret (by exact sv_bl)) (by exact ss_nil)) (by exact ss_nil)) (by exact ss_cons (by exact ss_ret (by exact sv_b1 (bi_all rfl) rfl fr_all (by exact so_of (by exact g_lc true ([3] ++ ([4] ++ [])) [("one", 3), ("other", 4)] (by decide) rfl nd (by exact si_zip rfl fr_zip (by exact sv_v 0 rfl rfl rfl rfl) (by exact sv_slc (by exact so_v 0 rfl rfl rfl rfl) (by exact sp_some (by exact so_of (by exact sv_int))) (by exact sp_none)) rfl rfl rfl) (by kernel_rfl) (fun _ _ _ _ _ => by exact sg_tup rfl (by exact sgs_cons (by exact sg_name (pg_name nd rfl (by first | exact .inl rfl | exact .inr rfl) (by first | exact .inr rfl | exact .inl rfl))) (by exact sgs_cons (by exact sg_name (pg_name nd rfl (by first | exact .inl rfl | exact .inr rfl) (by first | exact .inr rfl | exact .inl rfl))) (by exact sgs_nil) rfl) rfl) rfl rfl) (fun _ _ _ _ _ => by exact sps_nil) (fun _ _ _ _ _ => by exact sv_cmp (op_ltA u100) ok_lt (by exact so_v 3 rfl rfl rfl rfl) (by exact so_v 4 rfl rfl rfl rfl) (nomark _)) (fun _ => rfl))) rfl rfl)) (by exact ss_nil))
theorem sc_messages_are_right : FnScope N_messages_are_right ps_messages_are_right (defScope (Hd.top 24)) := ⟨rfl, rfl, rfl, by decide +kernel, rfl, by decide +kernel, by decide +kernel⟩
theorem cal_messages_are_right (c : He.SaysD Hd.fa Hd.fn K) (X : K.In h) (G : h.Ns mainGlobals mg) : Cal P w K mg 4 "messages_are_right" ps_messages_are_right N_messages_are_right [] m_messages_are_right := by
  obtain ⟨fd, D⟩ := c.def_ 16 (d := Hd.dd 24 "messages_are_right") rfl
  have fr_all : mg "all" = none := He.free_ok X G (c.fact 42 (f := .free "all") rfl)
  have fr_any : mg "any" = none := He.free_ok X G (c.fact 43 (f := .free "any") rfl)
  have fr_isinstance : mg "isinstance" = none := He.free_ok X G (c.fact 47 (f := .free "isinstance") rfl)
  have fr_len : mg "len" = none := He.free_ok X G (c.fact 48 (f := .free "len") rfl)
  have fr_range : mg "range" = none := He.free_ok X G (c.fact 52 (f := .free "range") rfl)
  have fr_tuple : mg "tuple" = none := He.free_ok X G (c.fact 57 (f := .free "tuple") rfl)
  have fr_zip : mg "zip" = none := He.free_ok X G (c.fact 58 (f := .free "zip") rfl)
  have c_set_is_right := (cal_set_is_right (P := P) (w := w) c X G)
  refine cal_of (N := N_messages_are_right) (ps := ps_messages_are_right) (k := 3) D (He.glo_ok X G (c.fact 16 (f := .glo "messages_are_right") rfl)) sc_messages_are_right (fun _ _ _ _ _ _ us hl => match us, hl with | [_, _], _ => rfl) (fun _ z => nomatch z) (fun base cdv A out s H room gd => ?_)
  · have nd : N_messages_are_right.Nodup := sc_messages_are_right.nd
    have u100 := room_u room
    have u64 := room_u64 room
    have u65 := room_u65 room
    exact ss_cons (by exact ss_if (by exact g_pt (by exact sw_or (by exact sb_not (by exact sb_val (by exact sv_is it_tuple rfl fr_isinstance rfl fr_tuple (by exact so_v 1 rfl rfl rfl rfl) rfl rfl rfl) (fun _ => rfl))) (by exact pw_or1 (by exact sb_not (by exact sb_chain op_le op_le ok_le ok_le (by exact so_of (by exact sv_int)) (by exact so_of (by exact sv_b1 bi_len rfl fr_len (by exact so_v 1 rfl rfl rfl rfl) rfl rfl)) (by exact so_of (by exact sv_int)) rfl))))) (by exact ss_cons (by exact ss_ret (by exact sv_bl)) (by exact ss_nil)) (by exact ss_nil)) (by exact ss_cons (by exact ss_if (by exact sb_not (by exact sb_val (by exact sv_b1 (bi_all rfl) rfl fr_all (by exact so_of (by exact g_lc false [2] [("message", 2)] (by decide) rfl nd (by exact si_seq (by exact sv_v 1 rfl rfl rfl rfl)) (by kernel_rfl) (fun _ _ _ _ _ => by exact sg_name (pg_name nd rfl (by first | exact .inl rfl | exact .inr rfl) (by first | exact .inr rfl | exact .inl rfl))) (fun _ _ _ _ _ => by exact sps_nil) (fun _ _ _ _ _ => by exact sv_c c_set_is_right room (by first | decide | omega) gd rfl (by exact svs_cons (by exact sv_v 2 rfl rfl rfl rfl) (by exact svs_cons (by exact sv_b1 bi_len rfl fr_len (by exact so_v 0 rfl rfl rfl rfl) rfl rfl) (by exact svs_nil) rfl) rfl) rfl rfl rfl) (fun _ => rfl))) rfl rfl) (fun _ => rfl))) (by exact ss_cons (by exact ss_ret (by exact sv_bl)) (by exact ss_nil)) (by exact ss_nil)) (by exact ss_cons (by exact ss_if (by exact sb_not (by exact sb_val (by exact sv_b1 (bi_all rfl) rfl fr_all (by exact so_of (by exact g_lc true ([3] ++ ([4] ++ [])) [("one", 3), ("other", 4)] (by decide) rfl nd (by exact si_zip rfl fr_zip (by exact sv_v 1 rfl rfl rfl rfl) (by exact sv_slc (by exact so_v 1 rfl rfl rfl rfl) (by exact sp_some (by exact so_of (by exact sv_int))) (by exact sp_none)) rfl rfl rfl) (by kernel_rfl) (fun _ _ _ _ _ => by exact sg_tup rfl (by exact sgs_cons (by exact sg_name (pg_name nd rfl (by first | exact .inl rfl | exact .inr rfl) (by first | exact .inr rfl | exact .inl rfl))) (by exact sgs_cons (by exact sg_name (pg_name nd rfl (by first | exact .inl rfl | exact .inr rfl) (by first | exact .inr rfl | exact .inl rfl))) (by exact sgs_nil) rfl) rfl) rfl rfl) (fun _ _ _ _ _ => by exact sps_nil) (fun _ _ _ _ _ => by exact sv_cmp (op_ltA u100) ok_lt (by exact so_v 3 rfl rfl rfl rfl) (by exact so_v 4 rfl rfl rfl rfl) (nomark _)) (fun _ => rfl))) rfl rfl) (fun _ => rfl))) (by exact ss_cons (by exact ss_ret (by exact sv_bl)) (by exact ss_nil)) (by exact ss_nil)) (by exact ss_cons (by exact ss_ret (by exact sv_b1 (bi_all rfl) rfl fr_all (by exact so_of (by exact g_lc false [5] [("state", 5)] (by decide) rfl nd (by exact si_rng1 rfl fr_range (by exact so_of (by exact sv_b1 bi_len rfl fr_len (by exact so_v 0 rfl rfl rfl rfl) rfl rfl)) rfl rfl) (by kernel_rfl) (fun _ _ _ _ _ => by exact sg_name (pg_name nd rfl (by first | exact .inl rfl | exact .inr rfl) (by first | exact .inr rfl | exact .inl rfl))) (fun _ _ _ _ _ => by exact sps_nil) (fun _ _ _ _ _ => by exact sv_b1 (bi_any rfl) rfl fr_any (by exact so_of (by exact g_lc false [2] [("message", 2)] (by decide) rfl nd (by exact si_seq (by exact sv_v 1 rfl rfl rfl rfl)) (by kernel_rfl) (fun _ _ _ _ _ => by exact sg_name (pg_name nd rfl (by first | exact .inl rfl | exact .inr rfl) (by first | exact .inr rfl | exact .inl rfl))) (fun _ _ _ _ _ => by exact sps_nil) (fun _ _ _ _ _ => by exact sv_cmp (op_inA u65) ok_in (by exact so_v 5 rfl rfl rfl rfl) (by exact so_v 2 rfl rfl rfl rfl) rfl) (fun _ => rfl))) rfl rfl) (fun _ => rfl))) rfl rfl)) (by exact ss_nil))))
theorem sc_way_is_right : FnScope N_way_is_right ps_way_is_right (defScope (Hd.top 25)) := ⟨rfl, rfl, rfl, by decide +kernel, rfl, by decide +kernel, by decide +kernel⟩
theorem cal_way_is_right (c : He.SaysD Hd.fa Hd.fn K) (X : K.In h) (G : h.Ns mainGlobals mg) : Cal P w K mg 3 "way_is_right" ps_way_is_right N_way_is_right [] m_way_is_right := by
  obtain ⟨fd, D⟩ := c.def_ 17 (d := Hd.dd 25 "way_is_right") rfl
  have fr_all : mg "all" = none := He.free_ok X G (c.fact 42 (f := .free "all") rfl)
  have fr_enumerate : mg "enumerate" = none := He.free_ok X G (c.fact 45 (f := .free "enumerate") rfl)
  have fr_isinstance : mg "isinstance" = none := He.free_ok X G (c.fact 47 (f := .free "isinstance") rfl)
  have fr_len : mg "len" = none := He.free_ok X G (c.fact 48 (f := .free "len") rfl)
  have fr_tuple : mg "tuple" = none := He.free_ok X G (c.fact 57 (f := .free "tuple") rfl)
  have fr_zip : mg "zip" = none := He.free_ok X G (c.fact 58 (f := .free "zip") rfl)
  have c_is_position := (cal_is_position (P := P) (w := w) c X G)
  refine cal_of (N := N_way_is_right) (ps := ps_way_is_right) (k := 2) D (He.glo_ok X G (c.fact 17 (f := .glo "way_is_right") rfl)) sc_way_is_right (fun _ _ _ _ _ _ us hl => match us, hl with | [_, _, _], _ => rfl) (fun _ z => nomatch z) (fun base cdv A out s H room gd => ?_)
  · have nd : N_way_is_right.Nodup := sc_way_is_right.nd
    have u100 := room_u room
    have u64 := room_u64 room
    have u65 := room_u65 room
    exact ss_cons (by exact ss_if (by exact g_pt (by exact sw_or (by exact sb_not (by exact sb_val (by exact sv_is it_tuple rfl fr_isinstance rfl fr_tuple (by exact so_v 2 rfl rfl rfl rfl) rfl rfl rfl) (fun _ => rfl))) (by exact sw_or (by exact sb_cmp (op_neA u64) ok_ne (by exact so_of (by exact sv_b1 bi_len rfl fr_len (by exact so_v 2 rfl rfl rfl rfl) rfl rfl)) (by exact so_of (by exact sv_int)) (nomark _)) (by exact pw_or1 (by exact sb_not (by exact sb_val (by exact sv_b1 (bi_all rfl) rfl fr_all (by exact so_of (by exact g_lc false [5] [("some", 5)] (by decide) rfl nd (by exact si_seq (by exact sv_v 2 rfl rfl rfl rfl)) (by kernel_rfl) (fun _ _ _ _ _ => by exact sg_name (pg_name nd rfl (by first | exact .inl rfl | exact .inr rfl) (by first | exact .inr rfl | exact .inl rfl))) (fun _ _ _ _ _ => by exact sps_nil) (fun _ _ _ _ _ => by exact sv_is it_tuple rfl fr_isinstance rfl fr_tuple (by exact so_v 5 rfl rfl rfl rfl) rfl rfl rfl) (fun _ => rfl))) rfl rfl) (fun _ => rfl))))))) (by exact ss_cons (by exact ss_ret (by exact sv_bl)) (by exact ss_nil)) (by exact ss_nil)) (by exact ss_cons (by exact g_bind ([3] ++ ([4] ++ [])) (by exact sv_v 2 rfl rfl rfl rfl) (by exact sg_tup rfl (by exact sgs_cons (by exact sg_name (pg_name nd rfl (by first | exact .inl rfl | exact .inr rfl) (.inl rfl))) (by exact sgs_cons (by exact sg_name (pg_name nd rfl (by first | exact .inl rfl | exact .inr rfl) (.inl rfl))) (by exact sgs_nil) rfl) rfl) rfl rfl) rfl rfl rfl) (by exact ss_cons (by exact ss_if (by exact g_pt (by exact sw_or (by exact sb_cmp (op_neA u64) ok_ne (by exact so_of (by exact sv_b1 bi_len rfl fr_len (by exact so_v 3 rfl rfl rfl rfl) rfl rfl)) (by exact so_of (by exact sv_b1 bi_len rfl fr_len (by exact so_v 0 rfl rfl rfl rfl) rfl rfl)) (nomark _)) (by exact pw_or1 (by exact sb_cmp (op_neA u64) ok_ne (by exact so_of (by exact sv_b1 bi_len rfl fr_len (by exact so_v 4 rfl rfl rfl rfl) rfl rfl)) (by exact so_of (by exact sv_b1 bi_len rfl fr_len (by exact so_v 1 rfl rfl rfl rfl) rfl rfl)) (nomark _))))) (by exact ss_cons (by exact ss_ret (by exact sv_bl)) (by exact ss_nil)) (by exact ss_nil)) (by exact ss_cons (by exact ss_if (by exact sb_not (by exact sb_val (by exact sv_b1 (bi_all rfl) rfl fr_all (by exact so_of (by exact g_lc false [6] [("at", 6)] (by decide) rfl nd (by exact si_seq (by exact sv_v 3 rfl rfl rfl rfl)) (by kernel_rfl) (fun _ _ _ _ _ => by exact sg_name (pg_name nd rfl (by first | exact .inl rfl | exact .inr rfl) (by first | exact .inr rfl | exact .inl rfl))) (fun _ _ _ _ _ => by exact sps_nil) (fun _ _ _ _ _ => by exact sv_c c_is_position room (by first | decide | omega) gd rfl (by exact svs_cons (by exact sv_v 6 rfl rfl rfl rfl) (by exact svs_cons (by exact sv_b1 bi_len rfl fr_len (by exact so_v 1 rfl rfl rfl rfl) rfl rfl) (by exact svs_nil) rfl) rfl) rfl rfl rfl) (fun _ => rfl))) rfl rfl) (fun _ => rfl))) (by exact ss_cons (by exact ss_ret (by exact sv_bl)) (by exact ss_nil)) (by exact ss_nil)) (by exact ss_cons (by exact ss_if (by exact sb_not (by exact sb_val (by exact sv_b1 (bi_all rfl) rfl fr_all (by exact so_of (by exact g_lc false [7] [("state", 7)] (by decide) rfl nd (by exact si_seq (by exact sv_v 4 rfl rfl rfl rfl)) (by kernel_rfl) (fun _ _ _ _ _ => by exact sg_name (pg_name nd rfl (by first | exact .inl rfl | exact .inr rfl) (by first | exact .inr rfl | exact .inl rfl))) (fun _ _ _ _ _ => by exact sps_nil) (fun _ _ _ _ _ => by exact sv_c c_is_position room (by first | decide | omega) gd rfl (by exact svs_cons (by exact sv_v 7 rfl rfl rfl rfl) (by exact svs_cons (by exact sv_b1 bi_len rfl fr_len (by exact so_v 0 rfl rfl rfl rfl) rfl rfl) (by exact svs_nil) rfl) rfl) rfl rfl rfl) (fun _ => rfl))) rfl rfl) (fun _ => rfl))) (by exact ss_cons (by exact ss_ret (by exact sv_bl)) (by exact ss_nil)) (by exact ss_nil)) (by exact ss_cons (by exact ss_if (by exact sb_not (by exact sb_val (by exact sv_b1 (bi_all rfl) rfl fr_all (by exact so_of (by exact g_lc true ([7] ++ ([6] ++ [])) [("state", 7), ("at", 6)] (by decide) rfl nd (by exact si_enm rfl fr_enumerate (by exact sv_v 3 rfl rfl rfl rfl) rfl rfl) (by kernel_rfl) (fun _ _ _ _ _ => by exact sg_tup rfl (by exact sgs_cons (by exact sg_name (pg_name nd rfl (by first | exact .inl rfl | exact .inr rfl) (by first | exact .inr rfl | exact .inl rfl))) (by exact sgs_cons (by exact sg_name (pg_name nd rfl (by first | exact .inl rfl | exact .inr rfl) (by first | exact .inr rfl | exact .inl rfl))) (by exact sgs_nil) rfl) rfl) rfl rfl) (fun _ _ _ _ _ => by exact sps_nil) (fun _ _ _ _ _ => by exact sv_cmp (op_inA u65) ok_in (by exact so_v 7 rfl rfl rfl rfl) (by exact so_of (by exact sv_idx (by exact so_v 1 rfl rfl rfl rfl) (by exact so_v 6 rfl rfl rfl rfl) (fun _ _ => rfl))) rfl) (fun _ => rfl))) rfl rfl) (fun _ => rfl))) (by exact ss_cons (by exact ss_ret (by exact sv_bl)) (by exact ss_nil)) (by exact ss_nil)) (by exact ss_cons (by exact ss_ret (by exact sv_b1 (bi_all rfl) rfl fr_all (by exact so_of (by exact g_lc true ([7] ++ ([8] ++ [])) [("state", 7), ("message", 8)] (by decide) rfl nd (by exact si_zip rfl fr_zip (by exact sv_v 4 rfl rfl rfl rfl) (by exact sv_v 1 rfl rfl rfl rfl) rfl rfl rfl) (by kernel_rfl) (fun _ _ _ _ _ => by exact sg_tup rfl (by exact sgs_cons (by exact sg_name (pg_name nd rfl (by first | exact .inl rfl | exact .inr rfl) (by first | exact .inr rfl | exact .inl rfl))) (by exact sgs_cons (by exact sg_name (pg_name nd rfl (by first | exact .inl rfl | exact .inr rfl) (by first | exact .inr rfl | exact .inl rfl))) (by exact sgs_nil) rfl) rfl) rfl rfl) (fun _ _ _ _ _ => by exact sps_nil) (fun _ _ _ _ _ => by exact sv_cmp (op_inA u65) ok_in (by exact so_v 7 rfl rfl rfl rfl) (by exact so_v 8 rfl rfl rfl rfl) rfl) (fun _ => rfl))) rfl rfl)) (by exact ss_nil)))))))
theorem sc_enviers_fit : FnScope N_enviers_fit ps_enviers_fit (defScope (Hd.top 26)) := ⟨rfl, rfl, rfl, by decide +kernel, rfl, by decide +kernel, by decide +kernel⟩
theorem cal_enviers_fit (c : He.SaysD Hd.fa Hd.fn K) (X : K.In h) (G : h.Ns mainGlobals mg) : Cal P w K mg 3 "enviers_fit" ps_enviers_fit N_enviers_fit [] m_enviers_fit := by
  obtain ⟨fd, D⟩ := c.def_ 18 (d := Hd.dd 26 "enviers_fit") rfl
  have fr_all : mg "all" = none := He.free_ok X G (c.fact 42 (f := .free "all") rfl)
  have fr_isinstance : mg "isinstance" = none := He.free_ok X G (c.fact 47 (f := .free "isinstance") rfl)
  have fr_len : mg "len" = none := He.free_ok X G (c.fact 48 (f := .free "len") rfl)
  have fr_tuple : mg "tuple" = none := He.free_ok X G (c.fact 57 (f := .free "tuple") rfl)
  have fr_zip : mg "zip" = none := He.free_ok X G (c.fact 58 (f := .free "zip") rfl)
  have c_is_position := (cal_is_position (P := P) (w := w) c X G)
  have c_does_envy := (cal_does_envy (P := P) (w := w) c X G)
  refine cal_of (N := N_enviers_fit) (ps := ps_enviers_fit) (k := 2) D (He.glo_ok X G (c.fact 18 (f := .glo "enviers_fit") rfl)) sc_enviers_fit (fun _ _ _ _ _ _ us hl => match us, hl with | [_, _, _], _ => rfl) (fun _ z => nomatch z) (fun base cdv A out s H room gd => ?_)
  · have nd : N_enviers_fit.Nodup := sc_enviers_fit.nd
    have u100 := room_u room
    have u64 := room_u64 room
    have u65 := room_u65 room
    exact ss_cons (by exact ss_if (by exact g_pt (by exact sw_or (by exact sb_not (by exact sb_val (by exact sv_is it_tuple rfl fr_isinstance rfl fr_tuple (by exact so_v 2 rfl rfl rfl rfl) rfl rfl rfl) (fun _ => rfl))) (by exact pw_or1 (by exact sb_cmp (op_neA u64) ok_ne (by exact so_of (by exact sv_b1 bi_len rfl fr_len (by exact so_v 2 rfl rfl rfl rfl) rfl rfl)) (by exact so_of (by exact sv_b1 bi_len rfl fr_len (by exact so_v 1 rfl rfl rfl rfl) rfl rfl)) (nomark _))))) (by exact ss_cons (by exact ss_ret (by exact sv_bl)) (by exact ss_nil)) (by exact ss_nil)) (by exact ss_cons (by exact ss_if (by exact sb_not (by exact sb_val (by exact sv_b1 (bi_all rfl) rfl fr_all (by exact so_of (by exact g_lc false [3] [("one", 3)] (by decide) rfl nd (by exact si_seq (by exact sv_v 2 rfl rfl rfl rfl)) (by kernel_rfl) (fun _ _ _ _ _ => by exact sg_name (pg_name nd rfl (by first | exact .inl rfl | exact .inr rfl) (by first | exact .inr rfl | exact .inl rfl))) (fun _ _ _ _ _ => by exact sps_nil) (fun _ _ _ _ _ => by exact sv_and (by exact sv_asB (by exact sv_c c_is_position room (by first | decide | omega) gd rfl (by exact svs_cons (by exact sv_v 3 rfl rfl rfl rfl) (by exact svs_cons (by exact sv_b1 bi_len rfl fr_len (by exact so_v 0 rfl rfl rfl rfl) rfl rfl) (by exact svs_nil) rfl) rfl) rfl rfl rfl)) (by exact pe_one (by exact sv_asB (by exact sv_cmp (op_inA u65) ok_in (by exact so_v 3 rfl rfl rfl rfl) (by exact so_v 1 rfl rfl rfl rfl) rfl)))) (fun _ => rfl))) rfl rfl) (fun _ => rfl))) (by exact ss_cons (by exact ss_ret (by exact sv_bl)) (by exact ss_nil)) (by exact ss_nil)) (by exact ss_cons (by exact ss_ret (by exact sv_b1 (bi_all rfl) rfl fr_all (by exact so_of (by exact g_lc true ([3] ++ ([4] ++ [])) [("one", 3), ("state", 4)] (by decide) rfl nd (by exact si_zip rfl fr_zip (by exact sv_v 2 rfl rfl rfl rfl) (by exact sv_v 1 rfl rfl rfl rfl) rfl rfl rfl) (by kernel_rfl) (fun _ _ _ _ _ => by exact sg_tup rfl (by exact sgs_cons (by exact sg_name (pg_name nd rfl (by first | exact .inl rfl | exact .inr rfl) (by first | exact .inr rfl | exact .inl rfl))) (by exact sgs_cons (by exact sg_name (pg_name nd rfl (by first | exact .inl rfl | exact .inr rfl) (by first | exact .inr rfl | exact .inl rfl))) (by exact sgs_nil) rfl) rfl) rfl rfl) (fun _ _ _ _ _ => by exact sps_nil) (fun _ _ _ _ _ => by exact sv_c c_does_envy room (by first | decide | omega) gd rfl (by exact svs_cons (by exact sv_v 0 rfl rfl rfl rfl) (by exact svs_cons (by exact sv_v 3 rfl rfl rfl rfl) (by exact svs_cons (by exact sv_v 4 rfl rfl rfl rfl) (by exact svs_nil) rfl) rfl) rfl) rfl rfl rfl) (fun _ => rfl))) rfl rfl)) (by exact ss_nil)))
theorem sc_check_faces : FnScope N_check_faces ps_check_faces (defScope (Hd.top 27)) := ⟨rfl, rfl, rfl, by decide +kernel, rfl, by decide +kernel, by decide +kernel⟩
theorem cal_check_faces (c : He.SaysD Hd.fa Hd.fn K) (X : K.In h) (G : h.Ns mainGlobals mg) : Cal P w K mg 4 "check_faces" ps_check_faces N_check_faces [] m_check_faces := by
  obtain ⟨fd, D⟩ := c.def_ 19 (d := Hd.dd 27 "check_faces") rfl
  have c_faces_are_right := (cal_faces_are_right (P := P) (w := w) c X G)
  refine cal_of (N := N_check_faces) (ps := ps_check_faces) (k := 3) D (He.glo_ok X G (c.fact 19 (f := .glo "check_faces") rfl)) sc_check_faces (fun _ _ _ _ _ _ us hl => match us, hl with | [_], _ => rfl) (fun _ z => nomatch z) (fun base cdv A out s H room gd => ?_)
  · have nd : N_check_faces.Nodup := sc_check_faces.nd
    have u100 := room_u room
    have u64 := room_u64 room
    have u65 := room_u65 room
    exact ss_cons (by exact ss_if (by exact sb_not (by exact sb_val (by exact sv_c c_faces_are_right room (by first | decide | omega) gd rfl (by exact svs_cons (by exact sv_v 0 rfl rfl rfl rfl) (by exact svs_nil) rfl) rfl rfl rfl) (fun _ => rfl))) (by exact ss_cons (by exact ss_never) (by exact ss_nil)) (by exact ss_nil)) (by exact ss_nil)
theorem sc_check_both : FnScope N_check_both ps_check_both (defScope (Hd.top 28)) := ⟨rfl, rfl, rfl, by decide +kernel, rfl, by decide +kernel, by decide +kernel⟩
theorem cal_check_both (c : He.SaysD Hd.fa Hd.fn K) (X : K.In h) (G : h.Ns mainGlobals mg) : Cal P w K mg 5 "check_both" ps_check_both N_check_both [] m_check_both := by
  obtain ⟨fd, D⟩ := c.def_ 20 (d := Hd.dd 28 "check_both") rfl
  have c_messages_are_right := (cal_messages_are_right (P := P) (w := w) c X G)
  have c_check_faces := (cal_check_faces (P := P) (w := w) c X G)
  refine cal_of (N := N_check_both) (ps := ps_check_both) (k := 4) D (He.glo_ok X G (c.fact 20 (f := .glo "check_both") rfl)) sc_check_both (fun _ _ _ _ _ _ us hl => match us, hl with | [_, _], _ => rfl) (fun _ z => nomatch z) (fun base cdv A out s H room gd => ?_)
  · have nd : N_check_both.Nodup := sc_check_both.nd
    have u100 := room_u room
    have u64 := room_u64 room
    have u65 := room_u65 room
    exact ss_cons (by exact ss_expr (by exact sv_c c_check_faces room (by first | decide | omega) gd rfl (by exact svs_cons (by exact sv_v 0 rfl rfl rfl rfl) (by exact svs_nil) rfl) rfl rfl rfl) rfl) (by exact ss_cons (by exact ss_if (by exact sb_not (by exact sb_val (by exact sv_c c_messages_are_right room (by first | decide | omega) gd rfl (by exact svs_cons (by exact sv_v 0 rfl rfl rfl rfl) (by exact svs_cons (by exact sv_v 1 rfl rfl rfl rfl) (by exact svs_nil) rfl) rfl) rfl rfl rfl) (fun _ => rfl))) (by exact ss_cons (by exact ss_never) (by exact ss_nil)) (by exact ss_nil)) (by exact ss_nil))
theorem sc_exact_way : FnScope N_exact_way ps_exact_way (defScope (Hd.top 29)) := ⟨rfl, rfl, rfl, by decide +kernel, rfl, by decide +kernel, by decide +kernel⟩
theorem cal_exact_way (c : He.SaysD Hd.fa Hd.fn K) (X : K.In h) (G : h.Ns mainGlobals mg) : Cal P w K mg 6 "exact_way" ps_exact_way N_exact_way [] m_exact_way := by
  obtain ⟨fd, D⟩ := c.def_ 21 (d := Hd.dd 29 "exact_way") rfl
  have c_exact_of := (cal_exact_of (P := P) (w := w) c X G)
  have c_check_both := (cal_check_both (P := P) (w := w) c X G)
  refine cal_of (N := N_exact_way) (ps := ps_exact_way) (k := 5) D (He.glo_ok X G (c.fact 21 (f := .glo "exact_way") rfl)) sc_exact_way (fun _ _ _ _ _ _ us hl => match us, hl with | [_, _], _ => rfl) (fun _ z => nomatch z) (fun base cdv A out s H room gd => ?_)
  · have nd : N_exact_way.Nodup := sc_exact_way.nd
    have u100 := room_u room
    have u64 := room_u64 room
    have u65 := room_u65 room
    exact ss_cons (by exact ss_expr (by exact sv_c c_check_both room (by first | decide | omega) gd rfl (by exact svs_cons (by exact sv_v 0 rfl rfl rfl rfl) (by exact svs_cons (by exact sv_v 1 rfl rfl rfl rfl) (by exact svs_nil) rfl) rfl) rfl rfl rfl) rfl) (by exact ss_cons (by exact ss_ret (by exact sv_c c_exact_of room (by first | decide | omega) gd rfl (by exact svs_cons (by exact sv_v 0 rfl rfl rfl rfl) (by exact svs_cons (by exact sv_v 1 rfl rfl rfl rfl) (by exact svs_nil) rfl) rfl) rfl rfl rfl)) (by exact ss_nil))
theorem sc_refusal : FnScope N_refusal ps_refusal (defScope (Hd.top 30)) := ⟨rfl, rfl, rfl, by decide +kernel, rfl, by decide +kernel, by decide +kernel⟩
theorem cal_refusal (c : He.SaysD Hd.fa Hd.fn K) (X : K.In h) (G : h.Ns mainGlobals mg) : Cal P w K mg 6 "refusal" ps_refusal N_refusal [] m_refusal := by
  obtain ⟨fd, D⟩ := c.def_ 22 (d := Hd.dd 30 "refusal") rfl
  have c_refusal_of := (cal_refusal_of (P := P) (w := w) c X G)
  have c_check_both := (cal_check_both (P := P) (w := w) c X G)
  refine cal_of (N := N_refusal) (ps := ps_refusal) (k := 5) D (He.glo_ok X G (c.fact 22 (f := .glo "refusal") rfl)) sc_refusal (fun _ _ _ _ _ _ us hl => match us, hl with | [_, _], _ => rfl) (fun _ z => nomatch z) (fun base cdv A out s H room gd => ?_)
  · have nd : N_refusal.Nodup := sc_refusal.nd
    have u100 := room_u room
    have u64 := room_u64 room
    have u65 := room_u65 room
    exact ss_cons (by exact ss_expr (by exact sv_c c_check_both room (by first | decide | omega) gd rfl (by exact svs_cons (by exact sv_v 0 rfl rfl rfl rfl) (by exact svs_cons (by exact sv_v 1 rfl rfl rfl rfl) (by exact svs_nil) rfl) rfl) rfl rfl rfl) rfl) (by exact ss_cons (by exact ss_ret (by exact sv_c c_refusal_of room (by first | decide | omega) gd rfl (by exact svs_cons (by exact sv_v 0 rfl rfl rfl rfl) (by exact svs_cons (by exact sv_v 1 rfl rfl rfl rfl) (by exact svs_nil) rfl) rfl) rfl rfl rfl)) (by exact ss_nil))
theorem sc_is_exact : FnScope N_is_exact ps_is_exact (defScope (Hd.top 31)) := ⟨rfl, rfl, rfl, by decide +kernel, rfl, by decide +kernel, by decide +kernel⟩
theorem cal_is_exact (c : He.SaysD Hd.fa Hd.fn K) (X : K.In h) (G : h.Ns mainGlobals mg) : Cal P w K mg 6 "is_exact" ps_is_exact N_is_exact [(["value", "messages", "faces"], [2, 1, 0])] m_is_exact := by
  obtain ⟨fd, D⟩ := c.def_ 23 (d := Hd.dd 31 "is_exact") rfl
  have fr_all : mg "all" = none := He.free_ok X G (c.fact 42 (f := .free "all") rfl)
  have fr_enumerate : mg "enumerate" = none := He.free_ok X G (c.fact 45 (f := .free "enumerate") rfl)
  have fr_len : mg "len" = none := He.free_ok X G (c.fact 48 (f := .free "len") rfl)
  have fr_set : mg "set" = none := He.free_ok X G (c.fact 54 (f := .free "set") rfl)
  have c_gains_of := (cal_gains_of (P := P) (w := w) c X G)
  have c_way_is_right := (cal_way_is_right (P := P) (w := w) c X G)
  have c_check_both := (cal_check_both (P := P) (w := w) c X G)
  refine cal_of (N := N_is_exact) (ps := ps_is_exact) (k := 5) D (He.glo_ok X G (c.fact 23 (f := .glo "is_exact") rfl)) sc_is_exact (fun _ _ _ _ _ _ us hl => match us, hl with | [_, _, _], _ => rfl) (fun p hp => by rw [List.mem_singleton] at hp; subst hp; exact FunD.kmix D (by decide) (fun _ _ _ _ _ _ ws hl => match ws, hl with | _ :: _ :: _ :: _, _ => rfl | [], hl => absurd hl (by simp [mixL, ps_is_exact]) | [_], hl => absurd hl (by simp [mixL, ps_is_exact]) | [_, _], hl => absurd hl (by simp [mixL, ps_is_exact]))) (fun base cdv A out s H room gd => ?_)
  · have nd : N_is_exact.Nodup := sc_is_exact.nd
    have u100 := room_u room
    have u64 := room_u64 room
    have u65 := room_u65 room
    exact ss_cons (by exact ss_expr (by exact sv_c c_check_both room (by first | decide | omega) gd rfl (by exact svs_cons (by exact sv_v 0 rfl rfl rfl rfl) (by exact svs_cons (by exact sv_v 1 rfl rfl rfl rfl) (by exact svs_nil) rfl) rfl) rfl rfl rfl) rfl) (by exact ss_cons (by exact ss_if (by exact g_pt (by exact sw_or (by exact sb_not (by exact sb_val (by exact sv_c c_way_is_right room (by first | decide | omega) gd rfl (by exact svs_cons (by exact sv_v 0 rfl rfl rfl rfl) (by exact svs_cons (by exact sv_v 1 rfl rfl rfl rfl) (by exact svs_cons (by exact sv_v 2 rfl rfl rfl rfl) (by exact svs_nil) rfl) rfl) rfl) rfl rfl rfl) (fun _ => rfl))) (by exact pw_or1 (by exact sb_cmp (op_neA u64) ok_ne (by exact so_of (by exact sv_c c_gains_of room (by first | decide | omega) gd rfl (by exact svs_cons (by exact sv_v 0 rfl rfl rfl rfl) (by exact svs_cons (by exact sv_v 1 rfl rfl rfl rfl) (by exact svs_cons (by exact sv_v 2 rfl rfl rfl rfl) (by exact svs_nil) rfl) rfl) rfl) rfl rfl rfl)) (by exact so_of (by exact sv_lst (by exact svs_nil))) (nomark _))))) (by exact ss_cons (by exact ss_ret (by exact sv_bl)) (by exact ss_nil)) (by exact ss_nil)) (by exact ss_cons (by exact g_bind ([3] ++ ([4] ++ [])) (by exact sv_v 2 rfl rfl rfl rfl) (by exact sg_tup rfl (by exact sgs_cons (by exact sg_name (pg_name nd rfl (by first | exact .inl rfl | exact .inr rfl) (.inl rfl))) (by exact sgs_cons (by exact sg_name (pg_name nd rfl (by first | exact .inl rfl | exact .inr rfl) (.inl rfl))) (by exact sgs_nil) rfl) rfl) rfl rfl) rfl rfl rfl) (by exact ss_cons (by exact ss_ret (by exact sv_and (by exact sv_asB (by exact sv_cmp (op_eqA u64) ok_eq (by exact so_of (by exact sv_lenSet rfl rfl fr_len rfl fr_set (by exact so_v 3 rfl rfl rfl rfl) rfl rfl rfl rfl)) (by exact so_of (by exact sv_b1 bi_len rfl fr_len (by exact so_v 3 rfl rfl rfl rfl) rfl rfl)) (nomark _))) (by exact pe_one (by exact sv_asB (by exact sv_b1 (bi_all rfl) rfl fr_all (by exact so_of (by exact g_lc true ([5] ++ ([6] ++ [])) [("state", 5), ("at", 6)] (by decide) rfl nd (by exact si_enm rfl fr_enumerate (by exact sv_v 3 rfl rfl rfl rfl) rfl rfl) (by kernel_rfl) (fun _ _ _ _ _ => by exact sg_tup rfl (by exact sgs_cons (by exact sg_name (pg_name nd rfl (by first | exact .inl rfl | exact .inr rfl) (by first | exact .inr rfl | exact .inl rfl))) (by exact sgs_cons (by exact sg_name (pg_name nd rfl (by first | exact .inl rfl | exact .inr rfl) (by first | exact .inr rfl | exact .inl rfl))) (by exact sgs_nil) rfl) rfl) rfl rfl) (fun _ _ _ _ _ => by exact sps_nil) (fun _ _ _ _ _ => by exact sv_cmp (op_eqA u64) ok_eq (by exact so_of (by exact sv_idx (by exact so_v 4 rfl rfl rfl rfl) (by exact so_v 6 rfl rfl rfl rfl) (fun _ _ => rfl))) (by exact so_v 5 rfl rfl rfl rfl) (nomark _)) (fun _ => rfl))) rfl rfl))))) (by exact ss_nil))))
theorem sc_is_refusal : FnScope N_is_refusal ps_is_refusal (defScope (Hd.top 32)) := ⟨rfl, rfl, rfl, by decide +kernel, rfl, by decide +kernel, by decide +kernel⟩
theorem cal_is_refusal (c : He.SaysD Hd.fa Hd.fn K) (X : K.In h) (G : h.Ns mainGlobals mg) : Cal P w K mg 6 "is_refusal" ps_is_refusal N_is_refusal [(["value", "messages", "faces"], [2, 1, 0])] m_is_refusal := by
  obtain ⟨fd, D⟩ := c.def_ 24 (d := Hd.dd 32 "is_refusal") rfl
  have fr_isinstance : mg "isinstance" = none := He.free_ok X G (c.fact 47 (f := .free "isinstance") rfl)
  have fr_len : mg "len" = none := He.free_ok X G (c.fact 48 (f := .free "len") rfl)
  have fr_str : mg "str" = none := He.free_ok X G (c.fact 56 (f := .free "str") rfl)
  have fr_tuple : mg "tuple" = none := He.free_ok X G (c.fact 57 (f := .free "tuple") rfl)
  have c_is_position := (cal_is_position (P := P) (w := w) c X G)
  have c_own_of := (cal_own_of (P := P) (w := w) c X G)
  have c_are_short := (cal_are_short (P := P) (w := w) c X G)
  have c_set_is_right := (cal_set_is_right (P := P) (w := w) c X G)
  have c_enviers_fit := (cal_enviers_fit (P := P) (w := w) c X G)
  have c_check_both := (cal_check_both (P := P) (w := w) c X G)
  refine cal_of (N := N_is_refusal) (ps := ps_is_refusal) (k := 5) D (He.glo_ok X G (c.fact 24 (f := .glo "is_refusal") rfl)) sc_is_refusal (fun _ _ _ _ _ _ us hl => match us, hl with | [_, _, _], _ => rfl) (fun p hp => by rw [List.mem_singleton] at hp; subst hp; exact FunD.kmix D (by decide) (fun _ _ _ _ _ _ ws hl => match ws, hl with | _ :: _ :: _ :: _, _ => rfl | [], hl => absurd hl (by simp [mixL, ps_is_refusal]) | [_], hl => absurd hl (by simp [mixL, ps_is_refusal]) | [_, _], hl => absurd hl (by simp [mixL, ps_is_refusal]))) (fun base cdv A out s H room gd => ?_)
  · have nd : N_is_refusal.Nodup := sc_is_refusal.nd
    have u100 := room_u room
    have u64 := room_u64 room
    have u65 := room_u65 room
    exact ss_cons (by exact ss_expr (by exact sv_c c_check_both room (by first | decide | omega) gd rfl (by exact svs_cons (by exact sv_v 0 rfl rfl rfl rfl) (by exact svs_cons (by exact sv_v 1 rfl rfl rfl rfl) (by exact svs_nil) rfl) rfl) rfl rfl rfl) rfl) (by exact ss_cons (by exact ss_if (by exact g_pt (by exact sw_or (by exact sb_not (by exact sb_val (by exact sv_is it_tuple rfl fr_isinstance rfl fr_tuple (by exact so_v 2 rfl rfl rfl rfl) rfl rfl rfl) (fun _ => rfl))) (by exact sw_or (by exact sb_cmp (op_ltA u100) ok_lt (by exact so_of (by exact sv_b1 bi_len rfl fr_len (by exact so_v 2 rfl rfl rfl rfl) rfl rfl)) (by exact so_of (by exact sv_int)) (nomark _)) (by exact pw_or1 (by exact sb_not (by exact sb_val (by exact sv_is it_str rfl fr_isinstance rfl fr_str (by exact so_of (by exact sv_idx (by exact so_v 2 rfl rfl rfl rfl) (by exact so_of (by exact sv_int)) (fun _ _ => rfl))) rfl rfl rfl) (fun _ => rfl))))))) (by exact ss_cons (by exact ss_ret (by exact sv_bl)) (by exact ss_nil)) (by exact ss_nil)) (by exact ss_cons (by exact ss_if (by exact g_pt (by exact sw_and (by exact sb_cmp (op_eqA u64) ok_eq (by exact so_of (by exact sv_idx (by exact so_v 2 rfl rfl rfl rfl) (by exact so_of (by exact sv_int)) (fun _ _ => rfl))) (by exact so_of (by exact sv_str)) (nomark _)) (by exact sw_and (by exact sb_cmp (op_eqA u64) ok_eq (by exact so_of (by exact sv_b1 bi_len rfl fr_len (by exact so_v 2 rfl rfl rfl rfl) rfl rfl)) (by exact so_of (by exact sv_int)) (nomark _)) (by exact pw_and1 (by exact sb_val (by exact sv_c c_is_position room (by first | decide | omega) gd rfl (by exact svs_cons (by exact sv_idx (by exact so_v 2 rfl rfl rfl rfl) (by exact so_of (by exact sv_int)) (fun _ _ => rfl)) (by exact svs_cons (by exact sv_b1 bi_len rfl fr_len (by exact so_v 1 rfl rfl rfl rfl) rfl rfl) (by exact svs_nil) rfl) rfl) rfl rfl rfl) (fun _ => rfl)))))) (by exact ss_cons (by exact ss_ret (by exact sv_c c_enviers_fit room (by first | decide | omega) gd rfl (by exact svs_cons (by exact sv_v 0 rfl rfl rfl rfl) (by exact svs_cons (by exact sv_idx (by exact so_v 1 rfl rfl rfl rfl) (by exact so_of (by exact sv_idx (by exact so_v 2 rfl rfl rfl rfl) (by exact so_of (by exact sv_int)) (fun _ _ => rfl))) (fun _ _ => rfl)) (by exact svs_cons (by exact sv_idx (by exact so_v 2 rfl rfl rfl rfl) (by exact so_of (by exact sv_int)) (fun _ _ => rfl)) (by exact svs_nil) rfl) rfl) rfl) rfl rfl rfl)) (by exact ss_nil)) (by exact ss_nil)) (by exact ss_cons (by exact ss_if (by exact g_pt (by exact sw_and (by exact sb_cmp (op_eqA u64) ok_eq (by exact so_of (by exact sv_idx (by exact so_v 2 rfl rfl rfl rfl) (by exact so_of (by exact sv_int)) (fun _ _ => rfl))) (by exact so_of (by exact sv_str)) (nomark _)) (by exact sw_and (by exact sb_cmp (op_eqA u64) ok_eq (by exact so_of (by exact sv_b1 bi_len rfl fr_len (by exact so_v 2 rfl rfl rfl rfl) rfl rfl)) (by exact so_of (by exact sv_int)) (nomark _)) (by exact pw_and1 (by exact sb_val (by exact sv_c c_set_is_right room (by first | decide | omega) gd rfl (by exact svs_cons (by exact sv_idx (by exact so_v 2 rfl rfl rfl rfl) (by exact so_of (by exact sv_int)) (fun _ _ => rfl)) (by exact svs_cons (by exact sv_b1 bi_len rfl fr_len (by exact so_v 0 rfl rfl rfl rfl) rfl rfl) (by exact svs_nil) rfl) rfl) rfl rfl rfl) (fun _ => rfl)))))) (by exact ss_cons (by exact ss_ret (by exact sv_c c_are_short room (by first | decide | omega) gd rfl (by exact svs_cons (by exact sv_c c_own_of room (by first | decide | omega) gd rfl (by exact svs_cons (by exact sv_v 0 rfl rfl rfl rfl) (by exact svs_cons (by exact sv_v 1 rfl rfl rfl rfl) (by exact svs_nil) rfl) rfl) rfl rfl rfl) (by exact svs_cons (by exact sv_idx (by exact so_v 2 rfl rfl rfl rfl) (by exact so_of (by exact sv_int)) (fun _ _ => rfl)) (by exact svs_nil) rfl) rfl) rfl rfl rfl)) (by exact ss_nil)) (by exact ss_nil)) (by exact ss_cons (by exact ss_ret (by exact sv_bl)) (by exact ss_nil)))))
theorem sc__law_pot : FnScope N__law_pot ps__law_pot (defScope (Hd.top 34)) := ⟨rfl, rfl, rfl, by decide +kernel, rfl, by decide +kernel, by decide +kernel⟩
theorem cal__law_pot (c : He.SaysD Hd.fa Hd.fn K) (X : K.In h) (G : h.Ns mainGlobals mg) : Cal P w K mg 1 "_law_pot" ps__law_pot N__law_pot [] m__law_pot := by
  obtain ⟨fd, D⟩ := c.def_ 25 (d := Hd.dd 34 "_law_pot") rfl
  have fr_abs : mg "abs" = none := He.free_ok X G (c.fact 41 (f := .free "abs") rfl)
  have fr_int : mg "int" = none := He.free_ok X G (c.fact 46 (f := .free "int") rfl)
  have fr_len : mg "len" = none := He.free_ok X G (c.fact 48 (f := .free "len") rfl)
  have fr_max : mg "max" = none := He.free_ok X G (c.fact 50 (f := .free "max") rfl)
  refine cal_of (N := N__law_pot) (ps := ps__law_pot) (k := 0) D (He.glo_ok X G (c.fact 25 (f := .glo "_law_pot") rfl)) sc__law_pot (fun _ _ _ _ _ _ us hl => match us, hl with | [_, _], _ => rfl) (fun _ z => nomatch z) (fun base cdv A out s H room gd => ?_)
  · have nd : N__law_pot.Nodup := sc__law_pot.nd
    have u100 := room_u room
    have u64 := room_u64 room
    have u65 := room_u65 room
    exact ss_cons (by exact g_set 2 nd rfl (by first | exact .inl rfl | exact .inr rfl) (by exact sv_frz (by exact sv_ite (by exact sb_cmp (op_ltA u100) ok_lt (by exact so_v 1 rfl rfl rfl rfl) (by exact so_of (by exact sv_b1 bi_len rfl fr_len (by exact so_v 0 rfl rfl rfl rfl) rfl rfl)) (nomark _)) (by exact sv_b1 bi_abs rfl fr_abs (by exact so_of (by exact sv_idx (by exact so_v 0 rfl rfl rfl rfl) (by exact so_v 1 rfl rfl rfl rfl) (fun _ _ => rfl))) rfl rfl) (by exact sv_bin op_addA ok_add (by exact so_of (by exact sv_bin op_mulA ok_mul (by exact so_of (by exact sv_int)) (by exact so_v 1 rfl rfl rfl rfl))) (by exact so_of (by exact sv_int))))) rfl (.inl rfl)) (by exact ss_cons (by exact g_set 3 nd rfl (by first | exact .inl rfl | exact .inr rfl) (by exact sv_frz (by exact sv_bin op_addA ok_add (by exact so_of (by exact sv_bin op_modN ok_mod (by exact so_of (by exact sv_t1 bt_int rfl fr_int (by exact so_of (by exact sv_bin op_addA ok_add (by exact so_of (by exact sv_bin op_addA ok_add (by exact so_of (by exact sv_bin op_mulA ok_mul (by exact so_of (by exact sv_bin op_modN ok_mod (by exact so_of (by exact sv_t1 bt_int rfl fr_int (by exact so_v 2 rfl rfl rfl rfl) rfl rfl)) (by exact so_of (by exact sv_int)))) (by exact so_of (by exact sv_int)))) (by exact so_of (by exact sv_bin op_mulA ok_mul (by exact so_of (by exact sv_int)) (by exact so_v 1 rfl rfl rfl rfl))))) (by exact so_of (by exact sv_int)))) rfl rfl)) (by exact so_of (by exact sv_int)))) (by exact so_of (by exact sv_int)))) rfl (.inl rfl)) (by exact ss_cons (by exact ss_ret (by exact sv_lst (by exact svs_cons (by exact sv_b2 (bi_max rfl) rfl fr_max (by exact so_of (by exact sv_int)) (by exact so_of (by exact sv_bin op_sub ok_sub (by exact so_v 2 rfl rfl rfl rfl) (by exact so_of (by exact sv_bin op_pow ok_pow (by exact so_of (by exact sv_int)) (by exact so_of (by exact sv_int)))))) rfl rfl rfl) (by exact svs_cons (by exact sv_v 3 rfl rfl rfl rfl) (by exact svs_nil) rfl) rfl))) (by exact ss_nil)))
theorem sc__law_draw : FnScope N__law_draw ps__law_draw (defScope (Hd.top 35)) := ⟨rfl, rfl, rfl, by decide +kernel, rfl, by decide +kernel, by decide +kernel⟩
theorem cal__law_draw (c : He.SaysD Hd.fa Hd.fn K) (X : K.In h) (G : h.Ns mainGlobals mg) : Cal P w K mg 1 "_law_draw" ps__law_draw N__law_draw [] m__law_draw := by
  obtain ⟨fd, D⟩ := c.def_ 26 (d := Hd.dd 35 "_law_draw") rfl
  have fr_int : mg "int" = none := He.free_ok X G (c.fact 46 (f := .free "int") rfl)
  refine cal_of (N := N__law_draw) (ps := ps__law_draw) (k := 0) D (He.glo_ok X G (c.fact 26 (f := .glo "_law_draw") rfl)) sc__law_draw (fun _ _ _ _ _ _ us hl => match us, hl with | [_, _], _ => rfl) (fun _ z => nomatch z) (fun base cdv A out s H room gd => ?_)
  · have nd : N__law_draw.Nodup := sc__law_draw.nd
    have u100 := room_u room
    have u64 := room_u64 room
    have u65 := room_u65 room
    exact ss_cons (by exact ss_if (by exact sb_cmp op_gt ok_gt (by exact so_of (by exact sv_idx (by exact so_v 0 rfl rfl rfl rfl) (by exact so_of (by exact sv_int)) (fun _ _ => rfl))) (by exact so_of (by exact sv_int)) (nomark _)) (by exact ss_cons (by exact g_set 2 nd rfl (by first | exact .inl rfl | exact .inr rfl) (by exact sv_bin op_modN ok_mod (by exact so_of (by exact sv_t1 bt_int rfl fr_int (by exact so_of (by exact sv_idx (by exact so_v 0 rfl rfl rfl rfl) (by exact so_of (by exact sv_int)) (fun _ _ => rfl))) rfl rfl)) (by exact so_v 1 rfl rfl rfl rfl)) rfl (.inl rfl)) (by exact ss_cons (by exact g_bind [] (by exact sv_bin op_fdivA ok_fdiv (by exact so_of (by exact sv_t1 bt_int rfl fr_int (by exact so_of (by exact sv_idx (by exact so_v 0 rfl rfl rfl rfl) (by exact so_of (by exact sv_int)) (fun _ _ => rfl))) rfl rfl)) (by exact so_v 1 rfl rfl rfl rfl)) (by exact sg_sub (nv 0 rfl rfl rfl rfl) (by exact so_of (by exact sv_int)) (fun _ => rfl)) rfl rfl rfl) (by exact ss_cons (by exact ss_retv (nv 2 rfl rfl rfl rfl)) (by exact ss_nil)))) (by exact ss_nil)) (by exact ss_cons (by exact g_bind [] (by exact sv_bin op_modN ok_mod (by exact so_of (by exact sv_t1 bt_int rfl fr_int (by exact so_of (by exact sv_bin op_addA ok_add (by exact so_of (by exact sv_bin op_mulA ok_mul (by exact so_of (by exact sv_idx (by exact so_v 0 rfl rfl rfl rfl) (by exact so_of (by exact sv_int)) (fun _ _ => rfl))) (by exact so_of (by exact sv_int)))) (by exact so_of (by exact sv_int)))) rfl rfl)) (by exact so_of (by exact sv_int))) (by exact sg_sub (nv 0 rfl rfl rfl rfl) (by exact so_of (by exact sv_int)) (fun _ => rfl)) rfl rfl rfl) (by exact ss_cons (by exact ss_ret (by exact sv_bin op_modN ok_mod (by exact so_of (by exact sv_t1 bt_int rfl fr_int (by exact so_of (by exact sv_bin op_fdivA ok_fdiv (by exact so_of (by exact sv_bin op_modN ok_mod (by exact so_of (by exact sv_t1 bt_int rfl fr_int (by exact so_of (by exact sv_bin op_mulA ok_mul (by exact so_of (by exact sv_idx (by exact so_v 0 rfl rfl rfl rfl) (by exact so_of (by exact sv_int)) (fun _ _ => rfl))) (by exact so_of (by exact sv_idx (by exact so_v 0 rfl rfl rfl rfl) (by exact so_of (by exact sv_int)) (fun _ _ => rfl))))) rfl rfl)) (by exact so_of (by exact sv_int)))) (by exact so_of (by exact sv_int)))) rfl rfl)) (by exact so_v 1 rfl rfl rfl rfl))) (by exact ss_nil)))
theorem sc__law_pick : FnScope N__law_pick ps__law_pick (defScope (Hd.top 36)) := ⟨rfl, rfl, rfl, by decide +kernel, rfl, by decide +kernel, by decide +kernel⟩
theorem cal__law_pick (c : He.SaysD Hd.fa Hd.fn K) (X : K.In h) (G : h.Ns mainGlobals mg) : Cal P w K mg 2 "_law_pick" ps__law_pick N__law_pick [] m__law_pick := by
  obtain ⟨fd, D⟩ := c.def_ 27 (d := Hd.dd 36 "_law_pick") rfl
  have fr_len : mg "len" = none := He.free_ok X G (c.fact 48 (f := .free "len") rfl)
  have c__law_draw := (cal__law_draw (P := P) (w := w) c X G)
  refine cal_of (N := N__law_pick) (ps := ps__law_pick) (k := 1) D (He.glo_ok X G (c.fact 27 (f := .glo "_law_pick") rfl)) sc__law_pick (fun _ _ _ _ _ _ us hl => match us, hl with | [_, _], _ => rfl) (fun _ z => nomatch z) (fun base cdv A out s H room gd => ?_)
  · have nd : N__law_pick.Nodup := sc__law_pick.nd
    have u100 := room_u room
    have u64 := room_u64 room
    have u65 := room_u65 room
    exact ss_cons (by exact ss_ret (by exact sv_idx (by exact so_v 1 rfl rfl rfl rfl) (by exact so_of (by exact sv_cP c__law_draw room (by first | decide | omega) gd rfl (nv 0 rfl rfl rfl rfl) (by exact svs_cons (by exact sv_b1 bi_len rfl fr_len (by exact so_v 1 rfl rfl rfl rfl) rfl rfl) (by exact svs_nil) rfl) rfl rfl rfl)) (fun _ _ => rfl))) (by exact ss_nil)
theorem sc__law_sets : FnScope N__law_sets ps__law_sets (defScope (Hd.top 37)) := ⟨rfl, rfl, rfl, by decide +kernel, rfl, by decide +kernel, by decide +kernel⟩
theorem cal__law_sets (c : He.SaysD Hd.fa Hd.fn K) (X : K.In h) (G : h.Ns mainGlobals mg) : Cal P w K mg 1 "_law_sets" ps__law_sets N__law_sets [] m__law_sets := by
  obtain ⟨fd, D⟩ := c.def_ 28 (d := Hd.dd 37 "_law_sets") rfl
  have fr_range : mg "range" = none := He.free_ok X G (c.fact 52 (f := .free "range") rfl)
  have fr_sorted : mg "sorted" = none := He.free_ok X G (c.fact 55 (f := .free "sorted") rfl)
  refine cal_of (N := N__law_sets) (ps := ps__law_sets) (k := 0) D (He.glo_ok X G (c.fact 28 (f := .glo "_law_sets") rfl)) sc__law_sets (fun _ _ _ _ _ _ us hl => match us, hl with | [_], _ => rfl) (fun _ z => nomatch z) (fun base cdv A out s H room gd => ?_)
  · have nd : N__law_sets.Nodup := sc__law_sets.nd
    have u100 := room_u room
    have u64 := room_u64 room
    have u65 := room_u65 room
    exact ss_cons (by exact g_set 1 nd rfl (by first | exact .inl rfl | exact .inr rfl) (by exact sv_frz (by exact sv_lst (by exact svs_cons (by exact sv_tup (by exact svs_nil)) (by exact svs_nil) rfl))) rfl (.inl rfl)) (by exact ss_cons (by exact g_for false [2] PassesOwn.never rfl (by exact si_rng1 rfl fr_range (by exact so_v 0 rfl rfl rfl rfl) rfl rfl) (by exact sg_name (pg_name nd rfl (by first | exact .inl rfl | exact .inr rfl) (.inl rfl))) (by exact ss_cons (by exact g_set 1 nd rfl (by first | exact .inl rfl | exact .inr rfl) (by exact sv_frz (by exact sv_bin op_addA ok_add (by exact so_v 1 rfl rfl rfl rfl) (by exact so_of (by exact g_lc false [3] [("some", 3)] (by decide) rfl nd (by exact si_seq (by exact sv_v 1 rfl rfl rfl rfl)) (by kernel_rfl) (fun _ _ _ _ _ => by exact sg_name (pg_name nd rfl (by first | exact .inl rfl | exact .inr rfl) (by first | exact .inr rfl | exact .inl rfl))) (fun _ _ _ _ _ => by exact sps_nil) (fun _ _ _ _ _ => by exact sv_bin op_addA ok_add (by exact so_v 3 rfl rfl rfl rfl) (by exact so_of (by exact sv_tup (by exact svs_cons (by exact sv_v 2 rfl rfl rfl rfl) (by exact svs_nil) rfl)))) (fun _ => rfl))))) rfl (.inl rfl)) (by exact ss_nil)) (fun _ => rfl)) (by exact ss_cons (by exact ss_ret (by exact sv_b1 (bi_sorted u100) rfl fr_sorted (by exact so_of (by exact g_lc false [3] [("some", 3)] (by decide) rfl nd (by exact si_seq (by exact sv_v 1 rfl rfl rfl rfl)) (by kernel_rfl) (fun _ _ _ _ _ => by exact sg_name (pg_name nd rfl (by first | exact .inl rfl | exact .inr rfl) (by first | exact .inr rfl | exact .inl rfl))) (fun _ _ _ _ _ => by exact sps_one (by exact sb_cmp (op_neA u64) ok_ne (by exact so_v 3 rfl rfl rfl rfl) (by exact so_of (by exact sv_tup (by exact svs_nil))) (nomark _))) (fun _ _ _ _ _ => by exact sv_v 3 rfl rfl rfl rfl) (fun _ => rfl))) rfl rfl)) (by exact ss_nil)))
theorem sc__law_faces : FnScope N__law_faces ps__law_faces (defScope (Hd.top 38)) := ⟨rfl, rfl, rfl, by decide +kernel, rfl, by decide +kernel, by decide +kernel⟩
theorem cal__law_faces (c : He.SaysD Hd.fa Hd.fn K) (X : K.In h) (G : h.Ns mainGlobals mg) : Cal P w K mg 3 "_law_faces" ps__law_faces N__law_faces [] m__law_faces := by
  obtain ⟨fd, D⟩ := c.def_ 29 (d := Hd.dd 38 "_law_faces") rfl
  have fr_int : mg "int" = none := He.free_ok X G (c.fact 46 (f := .free "int") rfl)
  have fr_range : mg "range" = none := He.free_ok X G (c.fact 52 (f := .free "range") rfl)
  have fr_tuple : mg "tuple" = none := He.free_ok X G (c.fact 57 (f := .free "tuple") rfl)
  have c__law_draw := (cal__law_draw (P := P) (w := w) c X G)
  have c__law_pick := (cal__law_pick (P := P) (w := w) c X G)
  refine cal_of (N := N__law_faces) (ps := ps__law_faces) (k := 2) D (He.glo_ok X G (c.fact 29 (f := .glo "_law_faces") rfl)) sc__law_faces (fun _ _ _ _ _ _ us hl => match us, hl with | [_, _], _ => rfl) (fun _ z => nomatch z) (fun base cdv A out s H room gd => ?_)
  · have nd : N__law_faces.Nodup := sc__law_faces.nd
    have u100 := room_u room
    have u64 := room_u64 room
    have u65 := room_u65 room
    exact ss_cons (by exact g_bind ([2] ++ ([3] ++ [])) (by exact sv_tup (by exact svs_cons (by exact sv_cP c__law_draw room (by first | decide | omega) gd rfl (nv 0 rfl rfl rfl rfl) (by exact svs_cons (by exact sv_int) (by exact svs_nil) rfl) rfl rfl rfl) (by exact svs_cons (by exact sv_cP c__law_pick room (by first | decide | omega) gd rfl (nv 0 rfl rfl rfl rfl) (by exact svs_cons (by exact sv_lst (by exact svs_cons (by exact sv_int) (by exact svs_cons (by exact sv_int) (by exact svs_cons (by exact sv_int) (by exact svs_nil) rfl) rfl) rfl)) (by exact svs_nil) rfl) rfl rfl rfl) (by exact svs_nil) rfl) rfl)) (by exact sg_tup rfl (by exact sgs_cons (by exact sg_name (pg_name nd rfl (by first | exact .inl rfl | exact .inr rfl) (.inl rfl))) (by exact sgs_cons (by exact sg_name (pg_name nd rfl (by first | exact .inl rfl | exact .inr rfl) (.inl rfl))) (by exact sgs_nil) rfl) rfl) rfl rfl) rfl rfl rfl) (by exact ss_cons (by exact ss_if (by exact sb_cmp (op_eqA u64) ok_eq (by exact so_v 2 rfl rfl rfl rfl) (by exact so_of (by exact sv_int)) (nomark _)) (by exact ss_cons (by exact g_setLcF false 4 [7] [("state", 7)] (by decide) rfl nd rfl rfl rfl (by exact si_rng1 rfl fr_range (by exact so_v 1 rfl rfl rfl rfl) rfl rfl) (by kernel_rfl) (fun _ _ _ _ _ => by exact sg_name (pg_name nd rfl (by first | exact .inl rfl | exact .inr rfl) (by first | exact .inr rfl | exact .inl rfl))) (fun _ _ _ _ _ => by exact sps_nil) (fun _ _ _ _ _ => by exact sv_bin op_sub ok_sub (by exact so_of (by exact sv_cP c__law_draw room (by first | decide | omega) gd rfl (nv 0 rfl rfl rfl rfl) (by exact svs_cons (by exact sv_int) (by exact svs_nil) rfl) rfl rfl rfl)) (by exact so_of (by exact sv_int))) (fun _ => rfl)) (by exact ss_cons (by exact ss_ret (by exact sv_t1 bt_tuple rfl fr_tuple (by exact so_of (by exact sv_bin op_mulA ok_mul (by exact so_of (by exact sv_lst (by exact svs_cons (by exact sv_t1 bt_tuple rfl fr_tuple (by exact so_v 4 rfl rfl rfl rfl) rfl rfl) (by exact svs_nil) rfl))) (by exact so_v 1 rfl rfl rfl rfl))) rfl rfl)) (by exact ss_nil))) (by exact ss_nil)) (by exact g_nest false 5 [6] [("own", 6)] (by decide) rfl nd rfl rfl rfl (by exact si_rng1 rfl fr_range (by exact so_v 1 rfl rfl rfl rfl) rfl rfl) (by kernel_rfl) (fun _ _ _ _ _ => by exact sg_name (pg_name nd rfl (by first | exact .inl rfl | exact .inr rfl) (by first | exact .inr rfl | exact .inl rfl))) (fun _ _ _ _ _ => g_lc false [7] [("state", 7)] (by decide) rfl nd (by exact si_rng1 rfl fr_range (by exact so_v 1 rfl rfl rfl rfl) rfl rfl) (by kernel_rfl) (fun _ _ _ _ _ => by exact sg_name (pg_name nd rfl (by first | exact .inl rfl | exact .inr rfl) (by first | exact .inr rfl | exact .inl rfl))) (fun _ _ _ _ _ => by exact sps_nil) (fun _ _ _ _ _ => by exact sv_bin op_sub ok_sub (by exact so_of (by exact sv_cP c__law_draw room (by first | decide | omega) gd rfl (nv 0 rfl rfl rfl rfl) (by exact svs_cons (by exact sv_bin op_addA ok_add (by exact so_of (by exact sv_bin op_mulA ok_mul (by exact so_of (by exact sv_int)) (by exact so_v 3 rfl rfl rfl rfl))) (by exact so_of (by exact sv_int))) (by exact svs_nil) rfl) rfl rfl rfl)) (by exact so_v 3 rfl rfl rfl rfl)) (fun _ => rfl)) (fun _ => rfl) (by exact ns_if (by exact sb_cmp (op_eqA u64) ok_eq (by exact so_v 2 rfl rfl rfl rfl) (by exact so_of (by exact sv_int)) (nomark _)) (by exact ns_cons (by exact ns_for false [6] (by decide) PassesOwn.never rfl (by exact si_rng1 rfl fr_range (by exact so_v 1 rfl rfl rfl rfl) rfl rfl) (by exact sg_name (pg_name nd rfl (by first | exact .inl rfl | exact .inr rfl) (.inl rfl))) (by exact ns_cons (by exact ns_set (nv 5 rfl rfl rfl rfl) (by exact sv_bin op_addA ok_add (by exact so_v 3 rfl rfl rfl rfl) (by exact so_of (by exact sv_int))) (by exact so_v 6 rfl rfl rfl rfl) (by exact so_v 6 rfl rfl rfl rfl) (fun _ _ => rfl) rfl rfl rfl (fun _ => rfl)) (by exact ns_cons (by exact ns_set (nv 5 rfl rfl rfl rfl) (by exact sv_bin op_addA ok_add (by exact so_of (by exact sv_bin op_addA ok_add (by exact so_v 3 rfl rfl rfl rfl) (by exact so_of (by exact sv_int)))) (by exact so_of (by exact sv_cP c__law_draw room (by first | decide | omega) gd rfl (nv 0 rfl rfl rfl rfl) (by exact svs_cons (by exact sv_int) (by exact svs_nil) rfl) rfl rfl rfl))) (by exact so_v 6 rfl rfl rfl rfl) (by exact so_of (by exact sv_bin op_modN ok_mod (by exact so_of (by exact sv_t1 bt_int rfl fr_int (by exact so_of (by exact sv_bin op_addA ok_add (by exact so_v 6 rfl rfl rfl rfl) (by exact so_of (by exact sv_int)))) rfl rfl)) (by exact so_v 1 rfl rfl rfl rfl))) (fun _ _ => rfl) rfl rfl rfl (fun _ => rfl)) (by exact ns_nil))) (fun _ => rfl)) (by exact ns_nil)) (by exact ns_nil)) (by exact ss_cons (by exact ss_ret (by exact sv_t1 bt_tuple rfl fr_tuple (by exact so_of (by exact g_lc false [4] [("row", 4)] (by decide) rfl nd (by exact si_seq (by exact sv_v 5 rfl rfl rfl rfl)) (by kernel_rfl) (fun _ _ _ _ _ => by exact sg_name (pg_name nd rfl (by first | exact .inl rfl | exact .inr rfl) (by first | exact .inr rfl | exact .inl rfl))) (fun _ _ _ _ _ => by exact sps_nil) (fun _ _ _ _ _ => by exact sv_t1 bt_tuple rfl fr_tuple (by exact so_v 4 rfl rfl rfl rfl) rfl rfl) (fun _ => rfl))) rfl rfl)) (by exact ss_nil))))
theorem sc__law_messages : FnScope N__law_messages ps__law_messages (defScope (Hd.top 39)) := ⟨rfl, rfl, rfl, by decide +kernel, rfl, by decide +kernel, by decide +kernel⟩
theorem cal__law_messages (c : He.SaysD Hd.fa Hd.fn K) (X : K.In h) (G : h.Ns mainGlobals mg) : Cal P w K mg 3 "_law_messages" ps__law_messages N__law_messages [] m__law_messages := by
  obtain ⟨fd, D⟩ := c.def_ 30 (d := Hd.dd 39 "_law_messages") rfl
  have fr_any : mg "any" = none := He.free_ok X G (c.fact 43 (f := .free "any") rfl)
  have fr_range : mg "range" = none := He.free_ok X G (c.fact 52 (f := .free "range") rfl)
  have fr_sorted : mg "sorted" = none := He.free_ok X G (c.fact 55 (f := .free "sorted") rfl)
  have fr_tuple : mg "tuple" = none := He.free_ok X G (c.fact 57 (f := .free "tuple") rfl)
  have c__law_draw := (cal__law_draw (P := P) (w := w) c X G)
  have c__law_pick := (cal__law_pick (P := P) (w := w) c X G)
  have c__law_sets := (cal__law_sets (P := P) (w := w) c X G)
  refine cal_of (N := N__law_messages) (ps := ps__law_messages) (k := 2) D (He.glo_ok X G (c.fact 30 (f := .glo "_law_messages") rfl)) sc__law_messages (fun _ _ _ _ _ _ us hl => match us, hl with | [_, _], _ => rfl) (fun _ z => nomatch z) (fun base cdv A out s H room gd => ?_)
  · have nd : N__law_messages.Nodup := sc__law_messages.nd
    have u100 := room_u room
    have u64 := room_u64 room
    have u65 := room_u65 room
    exact ss_cons (by exact g_setLc false 2 [4] [("some", 4)] (by decide) rfl nd rfl rfl rfl (by exact si_seq (by exact sv_c c__law_sets room (by first | decide | omega) gd rfl (by exact svs_cons (by exact sv_v 1 rfl rfl rfl rfl) (by exact svs_nil) rfl) rfl rfl rfl)) (by kernel_rfl) (fun _ _ _ _ _ => by exact sg_name (pg_name nd rfl (by first | exact .inl rfl | exact .inr rfl) (by first | exact .inr rfl | exact .inl rfl))) (fun _ _ _ _ _ => by exact sps_one (by exact sb_cmp (op_eqA u64) ok_eq (by exact so_of (by exact sv_cP c__law_draw room (by first | decide | omega) gd rfl (nv 0 rfl rfl rfl rfl) (by exact svs_cons (by exact sv_int) (by exact svs_nil) rfl) rfl rfl rfl)) (by exact so_of (by exact sv_int)) (nomark _))) (fun _ _ _ _ _ => by exact sv_v 4 rfl rfl rfl rfl) (fun _ => rfl)) (by exact ss_cons (by exact g_for false [3] PassesOwn.never rfl (by exact si_rng1 rfl fr_range (by exact so_v 1 rfl rfl rfl rfl) rfl rfl) (by exact sg_name (pg_name nd rfl (by first | exact .inl rfl | exact .inr rfl) (.inl rfl))) (by exact ss_cons (by exact ss_if (by exact sb_not (by exact sb_val (by exact sv_b1 (bi_any rfl) rfl fr_any (by exact so_of (by exact g_lcK 2 [4] [("some", 4)] (by decide) rfl nd (nv 2 rfl rfl rfl rfl) (by kernel_rfl) (fun _ _ _ _ _ => by exact sg_name (pg_name nd rfl (by first | exact .inl rfl | exact .inr rfl) (by first | exact .inr rfl | exact .inl rfl))) (fun _ _ _ _ _ => by exact sps_nil) (fun _ _ _ _ _ => by exact sv_cmp (op_inA u65) ok_in (by exact so_v 3 rfl rfl rfl rfl) (by exact so_v 4 rfl rfl rfl rfl) rfl) (fun _ => rfl))) rfl rfl) (fun _ => rfl))) (by exact ss_cons (by exact g_app 2 (nv 2 rfl rfl rfl rfl) (by exact sv_cP c__law_pick room (by first | decide | omega) gd rfl (nv 0 rfl rfl rfl rfl) (by exact svs_cons (by exact g_lc false [4] [("some", 4)] (by decide) rfl nd (by exact si_seq (by exact sv_c c__law_sets room (by first | decide | omega) gd rfl (by exact svs_cons (by exact sv_v 1 rfl rfl rfl rfl) (by exact svs_nil) rfl) rfl rfl rfl)) (by kernel_rfl) (fun _ _ _ _ _ => by exact sg_name (pg_name nd rfl (by first | exact .inl rfl | exact .inr rfl) (by first | exact .inr rfl | exact .inl rfl))) (fun _ _ _ _ _ => by exact sps_one (by exact sb_cmp (op_inA u65) ok_in (by exact so_v 3 rfl rfl rfl rfl) (by exact so_v 4 rfl rfl rfl rfl) rfl)) (fun _ _ _ _ _ => by exact sv_v 4 rfl rfl rfl rfl) (fun _ => rfl)) (by exact svs_nil) rfl) rfl rfl rfl) ⟨rfl, rfl, rfl, rfl, rfl⟩ rfl) (by exact ss_nil)) (by exact ss_nil)) (by exact ss_nil)) (fun _ => rfl)) (by exact ss_cons (by exact ss_ret (by exact sv_t1 bt_tuple rfl fr_tuple (by exact so_of (by exact sv_b1 (bi_sorted u100) rfl fr_sorted (by exact so_v 2 rfl rfl rfl rfl) rfl rfl)) rfl rfl)) (by exact ss_nil)))
theorem sc__law_fit : FnScope N__law_fit ps__law_fit (defScope (Hd.top 40)) := ⟨rfl, rfl, rfl, by decide +kernel, rfl, by decide +kernel, by decide +kernel⟩
theorem cal__law_fit (c : He.SaysD Hd.fa Hd.fn K) (X : K.In h) (G : h.Ns mainGlobals mg) : Cal P w K mg 1 "_law_fit" ps__law_fit N__law_fit [] m__law_fit := by
  obtain ⟨fd, D⟩ := c.def_ 31 (d := Hd.dd 40 "_law_fit") rfl
  have fr_any : mg "any" = none := He.free_ok X G (c.fact 43 (f := .free "any") rfl)
  refine cal_of (N := N__law_fit) (ps := ps__law_fit) (k := 0) D (He.glo_ok X G (c.fact 31 (f := .glo "_law_fit") rfl)) sc__law_fit (fun _ _ _ _ _ _ us hl => match us, hl with | [_, _], _ => rfl) (fun _ z => nomatch z) (fun base cdv A out s H room gd => ?_)
  · have nd : N__law_fit.Nodup := sc__law_fit.nd
    have u100 := room_u room
    have u64 := room_u64 room
    have u65 := room_u65 room
    exact ss_cons (by exact ss_ret (by exact g_lc false [2] [("state", 2)] (by decide) rfl nd (by exact si_seq (by exact sv_v 1 rfl rfl rfl rfl)) (by kernel_rfl) (fun _ _ _ _ _ => by exact sg_name (pg_name nd rfl (by first | exact .inl rfl | exact .inr rfl) (by first | exact .inr rfl | exact .inl rfl))) (fun _ _ _ _ _ => by exact sps_one (by exact sb_not (by exact sb_val (by exact sv_b1 (bi_any rfl) rfl fr_any (by exact so_of (by exact g_lc false [3] [("other", 3)] (by decide) rfl nd (by exact si_seq (by exact sv_v 1 rfl rfl rfl rfl)) (by kernel_rfl) (fun _ _ _ _ _ => by exact sg_name (pg_name nd rfl (by first | exact .inl rfl | exact .inr rfl) (by first | exact .inr rfl | exact .inl rfl))) (fun _ _ _ _ _ => by exact sps_nil) (fun _ _ _ _ _ => by exact sv_cmp op_gt ok_gt (by exact so_of (by exact sv_idx (by exact so_of (by exact sv_idx (by exact so_v 0 rfl rfl rfl rfl) (by exact so_v 3 rfl rfl rfl rfl) (fun _ _ => rfl))) (by exact so_v 2 rfl rfl rfl rfl) (fun _ _ => rfl))) (by exact so_of (by exact sv_idx (by exact so_of (by exact sv_idx (by exact so_v 0 rfl rfl rfl rfl) (by exact so_v 3 rfl rfl rfl rfl) (fun _ _ => rfl))) (by exact so_v 3 rfl rfl rfl rfl) (fun _ _ => rfl))) (nomark _)) (fun _ => rfl))) rfl rfl) (fun _ => rfl)))) (fun _ _ _ _ _ => by exact sv_v 2 rfl rfl rfl rfl) (fun _ => rfl))) (by exact ss_nil)
theorem sc__law_own : FnScope N__law_own ps__law_own (defScope (Hd.top 41)) := ⟨rfl, rfl, rfl, by decide +kernel, rfl, by decide +kernel, by decide +kernel⟩
theorem cal__law_own (c : He.SaysD Hd.fa Hd.fn K) (X : K.In h) (G : h.Ns mainGlobals mg) : Cal P w K mg 2 "_law_own" ps__law_own N__law_own [] m__law_own := by
  obtain ⟨fd, D⟩ := c.def_ 32 (d := Hd.dd 41 "_law_own") rfl
  have fr_enumerate : mg "enumerate" = none := He.free_ok X G (c.fact 45 (f := .free "enumerate") rfl)
  have fr_len : mg "len" = none := He.free_ok X G (c.fact 48 (f := .free "len") rfl)
  have fr_range : mg "range" = none := He.free_ok X G (c.fact 52 (f := .free "range") rfl)
  have c__law_fit := (cal__law_fit (P := P) (w := w) c X G)
  refine cal_of (N := N__law_own) (ps := ps__law_own) (k := 1) D (He.glo_ok X G (c.fact 32 (f := .glo "_law_own") rfl)) sc__law_own (fun _ _ _ _ _ _ us hl => match us, hl with | [_, _], _ => rfl) (fun _ z => nomatch z) (fun base cdv A out s H room gd => ?_)
  · have nd : N__law_own.Nodup := sc__law_own.nd
    have u100 := room_u room
    have u64 := room_u64 room
    have u65 := room_u65 room
    exact ss_cons (by exact g_set 2 nd rfl (by first | exact .inl rfl | exact .inr rfl) (by exact sv_frz (by exact g_lc false [3] [("some", 3)] (by decide) rfl nd (by exact si_seq (by exact sv_v 1 rfl rfl rfl rfl)) (by kernel_rfl) (fun _ _ _ _ _ => by exact sg_name (pg_name nd rfl (by first | exact .inl rfl | exact .inr rfl) (by first | exact .inr rfl | exact .inl rfl))) (fun _ _ _ _ _ => by exact sps_nil) (fun _ _ _ _ _ => by exact sv_c c__law_fit room (by first | decide | omega) gd rfl (by exact svs_cons (by exact sv_v 0 rfl rfl rfl rfl) (by exact svs_cons (by exact sv_v 3 rfl rfl rfl rfl) (by exact svs_nil) rfl) rfl) rfl rfl rfl) (fun _ => rfl))) rfl (.inl rfl)) (by exact ss_cons (by exact ss_ret (by exact g_lc false [4] [("state", 4)] (by decide) rfl nd (by exact si_rng1 rfl fr_range (by exact so_of (by exact sv_b1 bi_len rfl fr_len (by exact so_v 0 rfl rfl rfl rfl) rfl rfl)) rfl rfl) (by kernel_rfl) (fun _ _ _ _ _ => by exact sg_name (pg_name nd rfl (by first | exact .inl rfl | exact .inr rfl) (by first | exact .inr rfl | exact .inl rfl))) (fun _ _ _ _ _ => by exact sps_nil) (fun _ _ _ _ _ => g_lc true ([5] ++ ([3] ++ [])) [("at", 5), ("some", 3)] (by decide) rfl nd (by exact si_enm rfl fr_enumerate (by exact sv_v 2 rfl rfl rfl rfl) rfl rfl) (by kernel_rfl) (fun _ _ _ _ _ => by exact sg_tup rfl (by exact sgs_cons (by exact sg_name (pg_name nd rfl (by first | exact .inl rfl | exact .inr rfl) (by first | exact .inr rfl | exact .inl rfl))) (by exact sgs_cons (by exact sg_name (pg_name nd rfl (by first | exact .inl rfl | exact .inr rfl) (by first | exact .inr rfl | exact .inl rfl))) (by exact sgs_nil) rfl) rfl) rfl rfl) (fun _ _ _ _ _ => by exact sps_one (by exact sb_cmp (op_inA u65) ok_in (by exact so_v 4 rfl rfl rfl rfl) (by exact so_v 3 rfl rfl rfl rfl) rfl)) (fun _ _ _ _ _ => by exact sv_v 5 rfl rfl rfl rfl) (fun _ => rfl)) (fun _ => rfl))) (by exact ss_nil))
theorem sc__law_are_at : FnScope N__law_are_at ps__law_are_at (defScope (Hd.top 42)) := ⟨rfl, rfl, rfl, by decide +kernel, rfl, by decide +kernel, by decide +kernel⟩
theorem cal__law_are_at (c : He.SaysD Hd.fa Hd.fn K) (X : K.In h) (G : h.Ns mainGlobals mg) : Cal P w K mg 1 "_law_are_at" ps__law_are_at N__law_are_at [] m__law_are_at := by
  obtain ⟨fd, D⟩ := c.def_ 33 (d := Hd.dd 42 "_law_are_at") rfl
  have fr_all : mg "all" = none := He.free_ok X G (c.fact 42 (f := .free "all") rfl)
  have fr_bool : mg "bool" = none := He.free_ok X G (c.fact 44 (f := .free "bool") rfl)
  have fr_int : mg "int" = none := He.free_ok X G (c.fact 46 (f := .free "int") rfl)
  have fr_isinstance : mg "isinstance" = none := He.free_ok X G (c.fact 47 (f := .free "isinstance") rfl)
  have fr_len : mg "len" = none := He.free_ok X G (c.fact 48 (f := .free "len") rfl)
  have fr_tuple : mg "tuple" = none := He.free_ok X G (c.fact 57 (f := .free "tuple") rfl)
  refine cal_of (N := N__law_are_at) (ps := ps__law_are_at) (k := 0) D (He.glo_ok X G (c.fact 33 (f := .glo "_law_are_at") rfl)) sc__law_are_at (fun _ _ _ _ _ _ us hl => match us, hl with | [_, _, _], _ => rfl) (fun _ z => nomatch z) (fun base cdv A out s H room gd => ?_)
  · have nd : N__law_are_at.Nodup := sc__law_are_at.nd
    have u100 := room_u room
    have u64 := room_u64 room
    have u65 := room_u65 room
    exact ss_cons (by exact ss_if (by exact g_pt (by exact sw_or (by exact sb_not (by exact sb_val (by exact sv_is it_tuple rfl fr_isinstance rfl fr_tuple (by exact so_v 0 rfl rfl rfl rfl) rfl rfl rfl) (fun _ => rfl))) (by exact pw_or1 (by exact sb_cmp (op_neA u64) ok_ne (by exact so_of (by exact sv_b1 bi_len rfl fr_len (by exact so_v 0 rfl rfl rfl rfl) rfl rfl)) (by exact so_v 1 rfl rfl rfl rfl) (nomark _))))) (by exact ss_cons (by exact ss_ret (by exact sv_bl)) (by exact ss_nil)) (by exact ss_nil)) (by exact ss_cons (by exact ss_ret (by exact sv_b1 (bi_all rfl) rfl fr_all (by exact so_of (by exact g_lc false [3] [("one", 3)] (by decide) rfl nd (by exact si_seq (by exact sv_v 0 rfl rfl rfl rfl)) (by kernel_rfl) (fun _ _ _ _ _ => by exact sg_name (pg_name nd rfl (by first | exact .inl rfl | exact .inr rfl) (by first | exact .inr rfl | exact .inl rfl))) (fun _ _ _ _ _ => by exact sps_nil) (fun _ _ _ _ _ => by exact sv_and (by exact sv_asB (by exact sv_is it_int rfl fr_isinstance rfl fr_int (by exact so_v 3 rfl rfl rfl rfl) rfl rfl rfl)) (by exact sv_and (by exact sv_not (by exact sv_asB (by exact sv_is it_bool rfl fr_isinstance rfl fr_bool (by exact so_v 3 rfl rfl rfl rfl) rfl rfl rfl))) (by exact pe_one (by exact sv_asB (by exact sv_chain op_le (op_ltA u100) ok_le ok_lt (by exact so_of (by exact sv_int)) (by exact so_v 3 rfl rfl rfl rfl) (by exact so_v 2 rfl rfl rfl rfl) rfl))))) (fun _ => rfl))) rfl rfl)) (by exact ss_nil))
theorem sc__law_is_exact : FnScope N__law_is_exact ps__law_is_exact (defScope (Hd.top 43)) := ⟨rfl, rfl, rfl, by decide +kernel, rfl, by decide +kernel, by decide +kernel⟩
theorem cal__law_is_exact (c : He.SaysD Hd.fa Hd.fn K) (X : K.In h) (G : h.Ns mainGlobals mg) : Cal P w K mg 2 "_law_is_exact" ps__law_is_exact N__law_is_exact [] m__law_is_exact := by
  obtain ⟨fd, D⟩ := c.def_ 34 (d := Hd.dd 43 "_law_is_exact") rfl
  have fr_all : mg "all" = none := He.free_ok X G (c.fact 42 (f := .free "all") rfl)
  have fr_any : mg "any" = none := He.free_ok X G (c.fact 43 (f := .free "any") rfl)
  have fr_enumerate : mg "enumerate" = none := He.free_ok X G (c.fact 45 (f := .free "enumerate") rfl)
  have fr_isinstance : mg "isinstance" = none := He.free_ok X G (c.fact 47 (f := .free "isinstance") rfl)
  have fr_len : mg "len" = none := He.free_ok X G (c.fact 48 (f := .free "len") rfl)
  have fr_list : mg "list" = none := He.free_ok X G (c.fact 49 (f := .free "list") rfl)
  have fr_range : mg "range" = none := He.free_ok X G (c.fact 52 (f := .free "range") rfl)
  have fr_set : mg "set" = none := He.free_ok X G (c.fact 54 (f := .free "set") rfl)
  have fr_tuple : mg "tuple" = none := He.free_ok X G (c.fact 57 (f := .free "tuple") rfl)
  have fr_zip : mg "zip" = none := He.free_ok X G (c.fact 58 (f := .free "zip") rfl)
  have c__law_are_at := (cal__law_are_at (P := P) (w := w) c X G)
  refine cal_of (N := N__law_is_exact) (ps := ps__law_is_exact) (k := 1) D (He.glo_ok X G (c.fact 34 (f := .glo "_law_is_exact") rfl)) sc__law_is_exact (fun _ _ _ _ _ _ us hl => match us, hl with | [_, _, _], _ => rfl) (fun _ z => nomatch z) (fun base cdv A out s H room gd => ?_)
  · have nd : N__law_is_exact.Nodup := sc__law_is_exact.nd
    have u100 := room_u room
    have u64 := room_u64 room
    have u65 := room_u65 room
    exact ss_cons (by exact ss_if (by exact g_pt (by exact sw_or (by exact sb_not (by exact sb_val (by exact sv_is it_tuple rfl fr_isinstance rfl fr_tuple (by exact so_v 2 rfl rfl rfl rfl) rfl rfl rfl) (fun _ => rfl))) (by exact pw_or1 (by exact sb_cmp (op_neA u64) ok_ne (by exact so_of (by exact sv_b1 bi_len rfl fr_len (by exact so_v 2 rfl rfl rfl rfl) rfl rfl)) (by exact so_of (by exact sv_int)) (nomark _))))) (by exact ss_cons (by exact ss_ret (by exact sv_bl)) (by exact ss_nil)) (by exact ss_nil)) (by exact ss_cons (by exact g_bind ([3] ++ ([4] ++ [])) (by exact sv_v 2 rfl rfl rfl rfl) (by exact sg_tup rfl (by exact sgs_cons (by exact sg_name (pg_name nd rfl (by first | exact .inl rfl | exact .inr rfl) (.inl rfl))) (by exact sgs_cons (by exact sg_name (pg_name nd rfl (by first | exact .inl rfl | exact .inr rfl) (.inl rfl))) (by exact sgs_nil) rfl) rfl) rfl rfl) rfl rfl rfl) (by exact ss_cons (by exact ss_if (by exact g_pt (by exact sw_or (by exact sb_not (by exact sb_val (by exact sv_c c__law_are_at room (by first | decide | omega) gd rfl (by exact svs_cons (by exact sv_v 3 rfl rfl rfl rfl) (by exact svs_cons (by exact sv_b1 bi_len rfl fr_len (by exact so_v 0 rfl rfl rfl rfl) rfl rfl) (by exact svs_cons (by exact sv_b1 bi_len rfl fr_len (by exact so_v 1 rfl rfl rfl rfl) rfl rfl) (by exact svs_nil) rfl) rfl) rfl) rfl rfl rfl) (fun _ => rfl))) (by exact pw_or1 (by exact sb_not (by exact sb_val (by exact sv_c c__law_are_at room (by first | decide | omega) gd rfl (by exact svs_cons (by exact sv_v 4 rfl rfl rfl rfl) (by exact svs_cons (by exact sv_b1 bi_len rfl fr_len (by exact so_v 1 rfl rfl rfl rfl) rfl rfl) (by exact svs_cons (by exact sv_b1 bi_len rfl fr_len (by exact so_v 0 rfl rfl rfl rfl) rfl rfl) (by exact svs_nil) rfl) rfl) rfl) rfl rfl rfl) (fun _ => rfl)))))) (by exact ss_cons (by exact ss_ret (by exact sv_bl)) (by exact ss_nil)) (by exact ss_nil)) (by exact ss_cons (by exact ss_if (by exact g_pt (by exact sw_or (by exact sb_not (by exact sb_val (by exact sv_b1 (bi_all rfl) rfl fr_all (by exact so_of (by exact g_lc true ([5] ++ ([6] ++ [])) [("state", 5), ("at", 6)] (by decide) rfl nd (by exact si_enm rfl fr_enumerate (by exact sv_v 3 rfl rfl rfl rfl) rfl rfl) (by kernel_rfl) (fun _ _ _ _ _ => by exact sg_tup rfl (by exact sgs_cons (by exact sg_name (pg_name nd rfl (by first | exact .inl rfl | exact .inr rfl) (by first | exact .inr rfl | exact .inl rfl))) (by exact sgs_cons (by exact sg_name (pg_name nd rfl (by first | exact .inl rfl | exact .inr rfl) (by first | exact .inr rfl | exact .inl rfl))) (by exact sgs_nil) rfl) rfl) rfl rfl) (fun _ _ _ _ _ => by exact sps_nil) (fun _ _ _ _ _ => by exact sv_cmp (op_inA u65) ok_in (by exact so_v 5 rfl rfl rfl rfl) (by exact so_of (by exact sv_idx (by exact so_v 1 rfl rfl rfl rfl) (by exact so_v 6 rfl rfl rfl rfl) (fun _ _ => rfl))) rfl) (fun _ => rfl))) rfl rfl) (fun _ => rfl))) (by exact pw_or1 (by exact sb_not (by exact sb_val (by exact sv_b1 (bi_all rfl) rfl fr_all (by exact so_of (by exact g_lc true ([5] ++ ([7] ++ [])) [("state", 5), ("some", 7)] (by decide) rfl nd (by exact si_zip rfl fr_zip (by exact sv_v 4 rfl rfl rfl rfl) (by exact sv_v 1 rfl rfl rfl rfl) rfl rfl rfl) (by kernel_rfl) (fun _ _ _ _ _ => by exact sg_tup rfl (by exact sgs_cons (by exact sg_name (pg_name nd rfl (by first | exact .inl rfl | exact .inr rfl) (by first | exact .inr rfl | exact .inl rfl))) (by exact sgs_cons (by exact sg_name (pg_name nd rfl (by first | exact .inl rfl | exact .inr rfl) (by first | exact .inr rfl | exact .inl rfl))) (by exact sgs_nil) rfl) rfl) rfl rfl) (fun _ _ _ _ _ => by exact sps_nil) (fun _ _ _ _ _ => by exact sv_cmp (op_inA u65) ok_in (by exact so_v 5 rfl rfl rfl rfl) (by exact so_v 7 rfl rfl rfl rfl) rfl) (fun _ => rfl))) rfl rfl) (fun _ => rfl)))))) (by exact ss_cons (by exact ss_ret (by exact sv_bl)) (by exact ss_nil)) (by exact ss_nil)) (by exact ss_cons (by exact ss_if (by exact g_pt (by exact sw_or (by exact sb_cmp (op_ltA u100) ok_lt (by exact so_of (by exact sv_lenSet rfl rfl fr_len rfl fr_set (by exact so_v 3 rfl rfl rfl rfl) rfl rfl rfl rfl)) (by exact so_of (by exact sv_b1 bi_len rfl fr_len (by exact so_v 3 rfl rfl rfl rfl) rfl rfl)) (nomark _)) (by exact pw_or1 (by exact sb_cmp (op_neA u64) ok_ne (by exact so_of (by exact g_lc false [6] [("at", 6)] (by decide) rfl nd (by exact si_seq (by exact sv_v 3 rfl rfl rfl rfl)) (by kernel_rfl) (fun _ _ _ _ _ => by exact sg_name (pg_name nd rfl (by first | exact .inl rfl | exact .inr rfl) (by first | exact .inr rfl | exact .inl rfl))) (fun _ _ _ _ _ => by exact sps_nil) (fun _ _ _ _ _ => by exact sv_idx (by exact so_v 4 rfl rfl rfl rfl) (by exact so_v 6 rfl rfl rfl rfl) (fun _ _ => rfl)) (fun _ => rfl))) (by exact so_of (by exact sv_lrg rfl rfl fr_list rfl fr_range (by exact so_of (by exact sv_b1 bi_len rfl fr_len (by exact so_v 0 rfl rfl rfl rfl) rfl rfl)) rfl rfl)) (nomark _))))) (by exact ss_cons (by exact ss_ret (by exact sv_bl)) (by exact ss_nil)) (by exact ss_nil)) (by exact ss_cons (by exact g_for false [5] PassesOwn.never rfl (by exact si_rng1 rfl fr_range (by exact so_of (by exact sv_b1 bi_len rfl fr_len (by exact so_v 0 rfl rfl rfl rfl) rfl rfl)) rfl rfl) (by exact sg_name (pg_name nd rfl (by first | exact .inl rfl | exact .inr rfl) (.inl rfl))) (by exact ss_cons (by exact ss_if (by exact sb_val (by exact sv_b1 (bi_any rfl) rfl fr_any (by exact so_of (by exact g_lc true ([6] ++ ([7] ++ [])) [("at", 6), ("some", 7)] (by decide) rfl nd (by exact si_enm rfl fr_enumerate (by exact sv_v 1 rfl rfl rfl rfl) rfl rfl) (by kernel_rfl) (fun _ _ _ _ _ => by exact sg_tup rfl (by exact sgs_cons (by exact sg_name (pg_name nd rfl (by first | exact .inl rfl | exact .inr rfl) (by first | exact .inr rfl | exact .inl rfl))) (by exact sgs_cons (by exact sg_name (pg_name nd rfl (by first | exact .inl rfl | exact .inr rfl) (by first | exact .inr rfl | exact .inl rfl))) (by exact sgs_nil) rfl) rfl) rfl rfl) (fun _ _ _ _ _ => by exact sps_nil) (fun _ _ _ _ _ => by exact sv_and (by exact sv_asB (by exact sv_cmp (op_inA u65) ok_in (by exact so_v 5 rfl rfl rfl rfl) (by exact so_v 7 rfl rfl rfl rfl) rfl)) (by exact pe_one (by exact sv_asB (by exact sv_cmp op_gt ok_gt (by exact so_of (by exact sv_idx (by exact so_of (by exact sv_idx (by exact so_v 0 rfl rfl rfl rfl) (by exact so_v 5 rfl rfl rfl rfl) (fun _ _ => rfl))) (by exact so_of (by exact sv_idx (by exact so_v 4 rfl rfl rfl rfl) (by exact so_v 6 rfl rfl rfl rfl) (fun _ _ => rfl))) (fun _ _ => rfl))) (by exact so_of (by exact sv_idx (by exact so_of (by exact sv_idx (by exact so_v 0 rfl rfl rfl rfl) (by exact so_v 5 rfl rfl rfl rfl) (fun _ _ => rfl))) (by exact so_v 5 rfl rfl rfl rfl) (fun _ _ => rfl))) (nomark _))))) (fun _ => rfl))) rfl rfl) (fun _ => rfl)) (by exact ss_cons (by exact ss_ret (by exact sv_bl)) (by exact ss_nil)) (by exact ss_nil)) (by exact ss_nil)) (fun _ => rfl)) (by exact ss_cons (by exact ss_ret (by exact sv_bl)) (by exact ss_nil)))))))
theorem sc__law_is_refusal : FnScope N__law_is_refusal ps__law_is_refusal (defScope (Hd.top 44)) := ⟨rfl, rfl, rfl, by decide +kernel, rfl, by decide +kernel, by decide +kernel⟩
theorem cal__law_is_refusal (c : He.SaysD Hd.fa Hd.fn K) (X : K.In h) (G : h.Ns mainGlobals mg) : Cal P w K mg 3 "_law_is_refusal" ps__law_is_refusal N__law_is_refusal [] m__law_is_refusal := by
  obtain ⟨fd, D⟩ := c.def_ 35 (d := Hd.dd 44 "_law_is_refusal") rfl
  have fr_all : mg "all" = none := He.free_ok X G (c.fact 42 (f := .free "all") rfl)
  have fr_isinstance : mg "isinstance" = none := He.free_ok X G (c.fact 47 (f := .free "isinstance") rfl)
  have fr_len : mg "len" = none := He.free_ok X G (c.fact 48 (f := .free "len") rfl)
  have fr_list : mg "list" = none := He.free_ok X G (c.fact 49 (f := .free "list") rfl)
  have fr_set : mg "set" = none := He.free_ok X G (c.fact 54 (f := .free "set") rfl)
  have fr_sorted : mg "sorted" = none := He.free_ok X G (c.fact 55 (f := .free "sorted") rfl)
  have fr_str : mg "str" = none := He.free_ok X G (c.fact 56 (f := .free "str") rfl)
  have fr_tuple : mg "tuple" = none := He.free_ok X G (c.fact 57 (f := .free "tuple") rfl)
  have fr_zip : mg "zip" = none := He.free_ok X G (c.fact 58 (f := .free "zip") rfl)
  have c__law_own := (cal__law_own (P := P) (w := w) c X G)
  have c__law_are_at := (cal__law_are_at (P := P) (w := w) c X G)
  refine cal_of (N := N__law_is_refusal) (ps := ps__law_is_refusal) (k := 2) D (He.glo_ok X G (c.fact 35 (f := .glo "_law_is_refusal") rfl)) sc__law_is_refusal (fun _ _ _ _ _ _ us hl => match us, hl with | [_, _, _], _ => rfl) (fun _ z => nomatch z) (fun base cdv A out s H room gd => ?_)
  · have nd : N__law_is_refusal.Nodup := sc__law_is_refusal.nd
    have u100 := room_u room
    have u64 := room_u64 room
    have u65 := room_u65 room
    exact ss_cons (by exact ss_if (by exact g_pt (by exact sw_or (by exact sb_not (by exact sb_val (by exact sv_is it_tuple rfl fr_isinstance rfl fr_tuple (by exact so_v 2 rfl rfl rfl rfl) rfl rfl rfl) (fun _ => rfl))) (by exact sw_or (by exact sb_cmp (op_eqA u64) ok_eq (by exact so_v 2 rfl rfl rfl rfl) (by exact so_of (by exact sv_tup (by exact svs_nil))) (nomark _)) (by exact pw_or1 (by exact sb_not (by exact sb_val (by exact sv_is it_str rfl fr_isinstance rfl fr_str (by exact so_of (by exact sv_idx (by exact so_v 2 rfl rfl rfl rfl) (by exact so_of (by exact sv_int)) (fun _ _ => rfl))) rfl rfl rfl) (fun _ => rfl))))))) (by exact ss_cons (by exact ss_ret (by exact sv_bl)) (by exact ss_nil)) (by exact ss_nil)) (by exact ss_cons (by exact ss_if (by exact sb_cmp (op_eqA u64) ok_eq (by exact so_of (by exact sv_idx (by exact so_v 2 rfl rfl rfl rfl) (by exact so_of (by exact sv_int)) (fun _ _ => rfl))) (by exact so_of (by exact sv_str)) (nomark _)) (by exact ss_cons (by exact ss_if (by exact g_pt (by exact sw_or (by exact sb_cmp (op_neA u64) ok_ne (by exact so_of (by exact sv_b1 bi_len rfl fr_len (by exact so_v 2 rfl rfl rfl rfl) rfl rfl)) (by exact so_of (by exact sv_int)) (nomark _)) (by exact pw_or1 (by exact sb_not (by exact sb_val (by exact sv_c c__law_are_at room (by first | decide | omega) gd rfl (by exact svs_cons (by exact sv_slc (by exact so_v 2 rfl rfl rfl rfl) (by exact sp_some (by exact so_of (by exact sv_int))) (by exact sp_some (by exact so_of (by exact sv_int)))) (by exact svs_cons (by exact sv_int) (by exact svs_cons (by exact sv_b1 bi_len rfl fr_len (by exact so_v 1 rfl rfl rfl rfl) rfl rfl) (by exact svs_nil) rfl) rfl) rfl) rfl rfl rfl) (fun _ => rfl)))))) (by exact ss_cons (by exact ss_ret (by exact sv_bl)) (by exact ss_nil)) (by exact ss_nil)) (by exact ss_cons (by exact g_set 3 nd rfl (by first | exact .inl rfl | exact .inr rfl) (by exact sv_idx (by exact so_v 1 rfl rfl rfl rfl) (by exact so_of (by exact sv_idx (by exact so_v 2 rfl rfl rfl rfl) (by exact so_of (by exact sv_int)) (fun _ _ => rfl))) (fun _ _ => rfl)) rfl (.inl rfl)) (by exact ss_cons (by exact ss_if (by exact sb_not (by exact sb_val (by exact sv_c c__law_are_at room (by first | decide | omega) gd rfl (by exact svs_cons (by exact sv_idx (by exact so_v 2 rfl rfl rfl rfl) (by exact so_of (by exact sv_int)) (fun _ _ => rfl)) (by exact svs_cons (by exact sv_b1 bi_len rfl fr_len (by exact so_v 3 rfl rfl rfl rfl) rfl rfl) (by exact svs_cons (by exact sv_b1 bi_len rfl fr_len (by exact so_v 0 rfl rfl rfl rfl) rfl rfl) (by exact svs_nil) rfl) rfl) rfl) rfl rfl rfl) (fun _ => rfl))) (by exact ss_cons (by exact ss_ret (by exact sv_bl)) (by exact ss_nil)) (by exact ss_nil)) (by exact ss_cons (by exact ss_ret (by exact sv_b1 (bi_all rfl) rfl fr_all (by exact so_of (by exact g_lc true ([6] ++ ([7] ++ [])) [("state", 6), ("other", 7)] (by decide) rfl nd (by exact si_zip rfl fr_zip (by exact sv_v 3 rfl rfl rfl rfl) (by exact sv_idx (by exact so_v 2 rfl rfl rfl rfl) (by exact so_of (by exact sv_int)) (fun _ _ => rfl)) rfl rfl rfl) (by kernel_rfl) (fun _ _ _ _ _ => by exact sg_tup rfl (by exact sgs_cons (by exact sg_name (pg_name nd rfl (by first | exact .inl rfl | exact .inr rfl) (by first | exact .inr rfl | exact .inl rfl))) (by exact sgs_cons (by exact sg_name (pg_name nd rfl (by first | exact .inl rfl | exact .inr rfl) (by first | exact .inr rfl | exact .inl rfl))) (by exact sgs_nil) rfl) rfl) rfl rfl) (fun _ _ _ _ _ => by exact sps_nil) (fun _ _ _ _ _ => by exact sv_and (by exact sv_asB (by exact sv_cmp (op_inA u65) ok_in (by exact so_v 7 rfl rfl rfl rfl) (by exact so_v 3 rfl rfl rfl rfl) rfl)) (by exact pe_one (by exact sv_asB (by exact sv_cmp op_gt ok_gt (by exact so_of (by exact sv_idx (by exact so_of (by exact sv_idx (by exact so_v 0 rfl rfl rfl rfl) (by exact so_v 7 rfl rfl rfl rfl) (fun _ _ => rfl))) (by exact so_v 6 rfl rfl rfl rfl) (fun _ _ => rfl))) (by exact so_of (by exact sv_idx (by exact so_of (by exact sv_idx (by exact so_v 0 rfl rfl rfl rfl) (by exact so_v 7 rfl rfl rfl rfl) (fun _ _ => rfl))) (by exact so_v 7 rfl rfl rfl rfl) (fun _ _ => rfl))) (nomark _))))) (fun _ => rfl))) rfl rfl)) (by exact ss_nil))))) (by exact ss_nil)) (by exact ss_cons (by exact ss_if (by exact g_pt (by exact sw_or (by exact sb_cmp (op_neA u64) ok_ne (by exact so_of (by exact sv_idx (by exact so_v 2 rfl rfl rfl rfl) (by exact so_of (by exact sv_int)) (fun _ _ => rfl))) (by exact so_of (by exact sv_str)) (nomark _)) (by exact sw_or (by exact sb_cmp (op_neA u64) ok_ne (by exact so_of (by exact sv_b1 bi_len rfl fr_len (by exact so_v 2 rfl rfl rfl rfl) rfl rfl)) (by exact so_of (by exact sv_int)) (nomark _)) (by exact sw_or (by exact sb_not (by exact sb_val (by exact sv_is it_tuple rfl fr_isinstance rfl fr_tuple (by exact so_of (by exact sv_idx (by exact so_v 2 rfl rfl rfl rfl) (by exact so_of (by exact sv_int)) (fun _ _ => rfl))) rfl rfl rfl) (fun _ => rfl))) (by exact pw_or1 (by exact sb_not (by exact sb_val (by exact sv_c c__law_are_at room (by first | decide | omega) gd rfl (by exact svs_cons (by exact sv_idx (by exact so_v 2 rfl rfl rfl rfl) (by exact so_of (by exact sv_int)) (fun _ _ => rfl)) (by exact svs_cons (by exact sv_b1 bi_len rfl fr_len (by exact so_of (by exact sv_idx (by exact so_v 2 rfl rfl rfl rfl) (by exact so_of (by exact sv_int)) (fun _ _ => rfl))) rfl rfl) (by exact svs_cons (by exact sv_b1 bi_len rfl fr_len (by exact so_v 0 rfl rfl rfl rfl) rfl rfl) (by exact svs_nil) rfl) rfl) rfl) rfl rfl rfl) (fun _ => rfl)))))))) (by exact ss_cons (by exact ss_ret (by exact sv_bl)) (by exact ss_nil)) (by exact ss_nil)) (by exact ss_cons (by exact ss_if (by exact sb_cmp (op_neA u64) ok_ne (by exact so_of (by exact sv_t1 bt_list rfl fr_list (by exact so_of (by exact sv_idx (by exact so_v 2 rfl rfl rfl rfl) (by exact so_of (by exact sv_int)) (fun _ _ => rfl))) rfl rfl)) (by exact so_of (by exact sv_sortSet rfl rfl fr_sorted rfl fr_set (by exact so_of (by exact sv_idx (by exact so_v 2 rfl rfl rfl rfl) (by exact so_of (by exact sv_int)) (fun _ _ => rfl))) rfl rfl rfl rfl)) (nomark _)) (by exact ss_cons (by exact ss_ret (by exact sv_bl)) (by exact ss_nil)) (by exact ss_nil)) (by exact ss_cons (by exact g_par 4 5 rfl nd rfl rfl (by decide) rfl rfl (by exact sv_frz (by exact sv_c c__law_own room (by first | decide | omega) gd rfl (by exact svs_cons (by exact sv_v 0 rfl rfl rfl rfl) (by exact svs_cons (by exact sv_v 1 rfl rfl rfl rfl) (by exact svs_nil) rfl) rfl) rfl rfl rfl)) (by exact sv_lst (by exact svs_nil)) rfl rfl rfl rfl) (by exact ss_cons (by exact g_for false [6] PassesOwn.never rfl (by exact si_seq (by exact sv_idx (by exact so_v 2 rfl rfl rfl rfl) (by exact so_of (by exact sv_int)) (fun _ _ => rfl))) (by exact sg_name (pg_name nd rfl (by first | exact .inl rfl | exact .inr rfl) (.inl rfl))) (by exact ss_cons (by exact g_ext 5 (nv 5 rfl rfl rfl rfl) (by exact sv_idx (by exact so_v 4 rfl rfl rfl rfl) (by exact so_v 6 rfl rfl rfl rfl) (fun _ _ => rfl)) ⟨rfl, rfl, rfl, rfl, rfl⟩ rfl) (by exact ss_nil)) (fun _ => rfl)) (by exact ss_cons (by exact ss_ret (by exact sv_cmp (op_ltA u100) ok_lt (by exact so_of (by exact sv_lenSet rfl rfl fr_len rfl fr_set (by exact so_v 5 rfl rfl rfl rfl) rfl rfl rfl rfl)) (by exact so_of (by exact sv_b1 bi_len rfl fr_len (by exact so_of (by exact sv_idx (by exact so_v 2 rfl rfl rfl rfl) (by exact so_of (by exact sv_int)) (fun _ _ => rfl))) rfl rfl)) (nomark _))) (by exact ss_nil)))))))
theorem sc__law_bent : FnScope N__law_bent ps__law_bent (defScope (Hd.top 45)) := ⟨rfl, rfl, rfl, by decide +kernel, rfl, by decide +kernel, by decide +kernel⟩
theorem cal__law_bent (c : He.SaysD Hd.fa Hd.fn K) (X : K.In h) (G : h.Ns mainGlobals mg) : ∀ fuel : Nat, Cal P w K mg (3 + fuel) "_law_bent" ps__law_bent N__law_bent [] (m__law_bent fuel) := by
  obtain ⟨fd, D⟩ := c.def_ 36 (d := Hd.dd 45 "_law_bent") rfl
  have fr_isinstance : mg "isinstance" = none := He.free_ok X G (c.fact 47 (f := .free "isinstance") rfl)
  have fr_len : mg "len" = none := He.free_ok X G (c.fact 48 (f := .free "len") rfl)
  have fr_list : mg "list" = none := He.free_ok X G (c.fact 49 (f := .free "list") rfl)
  have fr_str : mg "str" = none := He.free_ok X G (c.fact 56 (f := .free "str") rfl)
  have fr_tuple : mg "tuple" = none := He.free_ok X G (c.fact 57 (f := .free "tuple") rfl)
  have c__law_draw := (cal__law_draw (P := P) (w := w) c X G)
  have c__law_pick := (cal__law_pick (P := P) (w := w) c X G)
  intro fuel
  induction fuel with
  | zero => exact cal_of (N := N__law_bent) (ps := ps__law_bent) (k := 2) D (He.glo_ok X G (c.fact 36 (f := .glo "_law_bent") rfl)) sc__law_bent (fun _ _ _ _ _ _ us hl => match us, hl with | [_, _, _], _ => rfl) (fun _ z => nomatch z) (fun base cdv A out s H room gd => sss_never)
  | succ fuel ih =>
    refine cal_of (N := N__law_bent) (ps := ps__law_bent) (k := 3 + fuel) D (He.glo_ok X G (c.fact 36 (f := .glo "_law_bent") rfl)) sc__law_bent (fun _ _ _ _ _ _ us hl => match us, hl with | [_, _, _], _ => rfl) (fun _ z => nomatch z) (fun base cdv A out s H room gd => ?_)
    have nd : N__law_bent.Nodup := sc__law_bent.nd
    have u100 := room_u room
    have u64 := room_u64 room
    have u65 := room_u65 room
    exact ss_cons (by exact ss_if (by exact sb_val (by exact sv_is it_str rfl fr_isinstance rfl fr_str (by exact so_v 1 rfl rfl rfl rfl) rfl rfl rfl) (fun _ => rfl)) (by exact ss_cons (by exact ss_ret (by exact sv_cP c__law_pick room (by first | decide | omega) gd rfl (nv 0 rfl rfl rfl rfl) (by exact svs_cons (by exact sv_lst (by exact svs_cons (by exact sv_str) (by exact svs_cons (by exact sv_str) (by exact svs_cons (by exact sv_str) (by exact svs_cons (by exact sv_str) (by exact svs_cons (by exact sv_non) (by exact svs_nil) rfl) rfl) rfl) rfl) rfl)) (by exact svs_nil) rfl) rfl rfl rfl)) (by exact ss_nil)) (by exact ss_nil)) (by exact ss_cons (by exact ss_if (by exact g_pt (by exact sw_or (by exact sb_not (by exact sb_val (by exact sv_is it_tuple rfl fr_isinstance rfl fr_tuple (by exact so_v 1 rfl rfl rfl rfl) rfl rfl rfl) (fun _ => rfl))) (by exact sw_or (by exact sb_cmp (op_eqA u64) ok_eq (by exact so_v 1 rfl rfl rfl rfl) (by exact so_of (by exact sv_tup (by exact svs_nil))) (nomark _)) (by exact pw_or1 (by exact sb_cmp (op_eqA u64) ok_eq (by exact so_of (by exact sv_cP c__law_draw room (by first | decide | omega) gd rfl (nv 0 rfl rfl rfl rfl) (by exact svs_cons (by exact sv_int) (by exact svs_nil) rfl) rfl rfl rfl)) (by exact so_of (by exact sv_int)) (nomark _)))))) (by exact ss_cons (by exact ss_ret (by exact sv_cP c__law_pick room (by first | decide | omega) gd rfl (nv 0 rfl rfl rfl rfl) (by exact svs_cons (by exact sv_lst (by exact svs_cons (by exact sv_cP c__law_draw room (by first | decide | omega) gd rfl (nv 0 rfl rfl rfl rfl) (by exact svs_cons (by exact sv_v 2 rfl rfl rfl rfl) (by exact svs_nil) rfl) rfl rfl rfl) (by exact svs_cons (by exact sv_cP c__law_draw room (by first | decide | omega) gd rfl (nv 0 rfl rfl rfl rfl) (by exact svs_cons (by exact sv_v 2 rfl rfl rfl rfl) (by exact svs_nil) rfl) rfl rfl rfl) (by exact svs_cons (by exact sv_v 2 rfl rfl rfl rfl) (by exact svs_cons (by exact sv_neg (by exact so_of (by exact sv_int))) (by exact svs_cons (by exact sv_bl) (by exact svs_cons (by exact sv_non) (by exact svs_cons (by exact sv_tup (by exact svs_cons (by exact sv_int) (by exact svs_nil) rfl)) (by exact svs_cons (by exact sv_tup (by exact svs_nil)) (by exact svs_nil) rfl) rfl) rfl) rfl) rfl) rfl) rfl) rfl)) (by exact svs_nil) rfl) rfl rfl rfl)) (by exact ss_nil)) (by exact ss_nil)) (by exact ss_cons (by exact ss_if (by exact sb_cmp (op_eqA u64) ok_eq (by exact so_of (by exact sv_cP c__law_draw room (by first | decide | omega) gd rfl (nv 0 rfl rfl rfl rfl) (by exact svs_cons (by exact sv_int) (by exact svs_nil) rfl) rfl rfl rfl)) (by exact so_of (by exact sv_int)) (nomark _)) (by exact ss_cons (by exact ss_ret (by exact sv_cP c__law_pick room (by first | decide | omega) gd rfl (nv 0 rfl rfl rfl rfl) (by exact svs_cons (by exact sv_lst (by exact svs_cons (by exact sv_t1 bt_list rfl fr_list (by exact so_v 1 rfl rfl rfl rfl) rfl rfl) (by exact svs_cons (by exact sv_rev (by exact so_v 1 rfl rfl rfl rfl) (fun _ _ => rfl)) (by exact svs_cons (by exact sv_slc (by exact so_v 1 rfl rfl rfl rfl) (by exact sp_none) (by exact sp_some (by exact so_of (by exact sv_neg (by exact so_of (by exact sv_int)))))) (by exact svs_cons (by exact sv_bin op_addA ok_add (by exact so_v 1 rfl rfl rfl rfl) (by exact so_of (by exact sv_slc (by exact so_v 1 rfl rfl rfl rfl) (by exact sp_none) (by exact sp_some (by exact so_of (by exact sv_int)))))) (by exact svs_nil) rfl) rfl) rfl) rfl)) (by exact svs_nil) rfl) rfl rfl rfl)) (by exact ss_nil)) (by exact ss_nil)) (by exact ss_cons (by exact g_set 3 nd rfl (by first | exact .inl rfl | exact .inr rfl) (by exact sv_frz (by exact sv_cP c__law_draw room (by first | decide | omega) gd rfl (nv 0 rfl rfl rfl rfl) (by exact svs_cons (by exact sv_b1 bi_len rfl fr_len (by exact so_v 1 rfl rfl rfl rfl) rfl rfl) (by exact svs_nil) rfl) rfl rfl rfl)) rfl (.inl rfl)) (by exact ss_cons (by exact ss_ret (by exact sv_bin op_addA ok_add (by exact so_of (by exact sv_bin op_addA ok_add (by exact so_of (by exact sv_slc (by exact so_v 1 rfl rfl rfl rfl) (by exact sp_none) (by exact sp_some (by exact so_v 3 rfl rfl rfl rfl)))) (by exact so_of (by exact sv_tup (by exact svs_cons (by exact sv_cP ih room (by first | decide | omega) gd rfl (nv 0 rfl rfl rfl rfl) (by exact svs_cons (by exact sv_idx (by exact so_v 1 rfl rfl rfl rfl) (by exact so_v 3 rfl rfl rfl rfl) (fun _ _ => rfl)) (by exact svs_cons (by exact sv_v 2 rfl rfl rfl rfl) (by exact svs_nil) rfl) rfl) rfl rfl rfl) (by exact svs_nil) rfl))))) (by exact so_of (by exact sv_slc (by exact so_v 1 rfl rfl rfl rfl) (by exact sp_some (by exact so_of (by exact sv_bin op_addA ok_add (by exact so_v 3 rfl rfl rfl rfl) (by exact so_of (by exact sv_int))))) (by exact sp_none))))) (by exact ss_nil)))))
theorem sc__law_made : FnScope N__law_made ps__law_made (defScope (Hd.top 46)) := ⟨rfl, rfl, rfl, by decide +kernel, rfl, by decide +kernel, by decide +kernel⟩
theorem cal__law_made (c : He.SaysD Hd.fa Hd.fn K) (X : K.In h) (G : h.Ns mainGlobals mg) : Cal P w K mg 3 "_law_made" ps__law_made N__law_made [] m__law_made := by
  obtain ⟨fd, D⟩ := c.def_ 37 (d := Hd.dd 46 "_law_made") rfl
  have fr_enumerate : mg "enumerate" = none := He.free_ok X G (c.fact 45 (f := .free "enumerate") rfl)
  have fr_len : mg "len" = none := He.free_ok X G (c.fact 48 (f := .free "len") rfl)
  have fr_range : mg "range" = none := He.free_ok X G (c.fact 52 (f := .free "range") rfl)
  have fr_tuple : mg "tuple" = none := He.free_ok X G (c.fact 57 (f := .free "tuple") rfl)
  have c__law_pick := (cal__law_pick (P := P) (w := w) c X G)
  refine cal_of (N := N__law_made) (ps := ps__law_made) (k := 2) D (He.glo_ok X G (c.fact 37 (f := .glo "_law_made") rfl)) sc__law_made (fun _ _ _ _ _ _ us hl => match us, hl with | [_, _, _], _ => rfl) (fun _ z => nomatch z) (fun base cdv A out s H room gd => ?_)
  · have nd : N__law_made.Nodup := sc__law_made.nd
    have u100 := room_u room
    have u64 := room_u64 room
    have u65 := room_u65 room
    exact ss_cons (by exact g_set 3 nd rfl (by first | exact .inl rfl | exact .inr rfl) (by exact sv_t1 bt_tuple rfl fr_tuple (by exact so_of (by exact g_lc false [7] [("state", 7)] (by decide) rfl nd (by exact si_rng1 rfl fr_range (by exact so_of (by exact sv_b1 bi_len rfl fr_len (by exact so_v 1 rfl rfl rfl rfl) rfl rfl)) rfl rfl) (by kernel_rfl) (fun _ _ _ _ _ => by exact sg_name (pg_name nd rfl (by first | exact .inl rfl | exact .inr rfl) (by first | exact .inr rfl | exact .inl rfl))) (fun _ _ _ _ _ => by exact sps_nil) (fun _ _ _ _ _ => by exact sv_cP c__law_pick room (by first | decide | omega) gd rfl (nv 0 rfl rfl rfl rfl) (by exact svs_cons (by exact g_lc true ([5] ++ ([6] ++ [])) [("at", 5), ("some", 6)] (by decide) rfl nd (by exact si_enm rfl fr_enumerate (by exact sv_v 2 rfl rfl rfl rfl) rfl rfl) (by kernel_rfl) (fun _ _ _ _ _ => by exact sg_tup rfl (by exact sgs_cons (by exact sg_name (pg_name nd rfl (by first | exact .inl rfl | exact .inr rfl) (by first | exact .inr rfl | exact .inl rfl))) (by exact sgs_cons (by exact sg_name (pg_name nd rfl (by first | exact .inl rfl | exact .inr rfl) (by first | exact .inr rfl | exact .inl rfl))) (by exact sgs_nil) rfl) rfl) rfl rfl) (fun _ _ _ _ _ => by exact sps_one (by exact sb_cmp (op_inA u65) ok_in (by exact so_v 7 rfl rfl rfl rfl) (by exact so_v 6 rfl rfl rfl rfl) rfl)) (fun _ _ _ _ _ => by exact sv_v 5 rfl rfl rfl rfl) (fun _ => rfl)) (by exact svs_nil) rfl) rfl rfl rfl) (fun _ => rfl))) rfl rfl) rfl (.inl rfl)) (by exact ss_cons (by exact g_set 4 nd rfl (by first | exact .inl rfl | exact .inr rfl) (by exact sv_lst (by exact svs_nil)) rfl (.inl rfl)) (by exact ss_cons (by exact g_for true ([5] ++ ([6] ++ [])) PassesOwn.never rfl (by exact si_enm rfl fr_enumerate (by exact sv_v 2 rfl rfl rfl rfl) rfl rfl) (by exact sg_tup rfl (by exact sgs_cons (by exact sg_name (pg_name nd rfl (by first | exact .inl rfl | exact .inr rfl) (.inl rfl))) (by exact sgs_cons (by exact sg_name (pg_name nd rfl (by first | exact .inl rfl | exact .inr rfl) (.inl rfl))) (by exact sgs_nil) rfl) rfl) rfl rfl) (by exact ss_cons (by exact g_app 4 (nv 4 rfl rfl rfl rfl) (by exact sv_ite (by exact sb_cmp (op_inA u65) ok_in (by exact so_v 5 rfl rfl rfl rfl) (by exact so_v 3 rfl rfl rfl rfl) rfl) (by exact sv_index u100 (by exact so_v 3 rfl rfl rfl rfl) (by exact so_v 5 rfl rfl rfl rfl) ⟨rfl, rfl, rfl, rfl, rfl⟩ rfl) (by exact sv_cP c__law_pick room (by first | decide | omega) gd rfl (nv 0 rfl rfl rfl rfl) (by exact svs_cons (by exact sv_v 6 rfl rfl rfl rfl) (by exact svs_nil) rfl) rfl rfl rfl)) ⟨rfl, rfl, rfl, rfl, rfl⟩ rfl) (by exact ss_nil)) (fun _ => rfl)) (by exact ss_cons (by exact ss_ret (by exact sv_tup (by exact svs_cons (by exact sv_v 3 rfl rfl rfl rfl) (by exact svs_cons (by exact sv_t1 bt_tuple rfl fr_tuple (by exact so_v 4 rfl rfl rfl rfl) rfl rfl) (by exact svs_nil) rfl) rfl))) (by exact ss_nil))))
theorem sc__law_right : FnScope N__law_right ps__law_right (defScope (Hd.top 47)) := ⟨rfl, rfl, rfl, by decide +kernel, rfl, by decide +kernel, by decide +kernel⟩
theorem cal__law_right (c : He.SaysD Hd.fa Hd.fn K) (X : K.In h) (G : h.Ns mainGlobals mg) : Cal P w K mg 12 "_law_right" ps__law_right N__law_right [] m__law_right := by
  obtain ⟨fd, D⟩ := c.def_ 38 (d := Hd.dd 47 "_law_right") rfl
  have fr_enumerate : mg "enumerate" = none := He.free_ok X G (c.fact 45 (f := .free "enumerate") rfl)
  have fr_len : mg "len" = none := He.free_ok X G (c.fact 48 (f := .free "len") rfl)
  have fr_max : mg "max" = none := He.free_ok X G (c.fact 50 (f := .free "max") rfl)
  have fr_range : mg "range" = none := He.free_ok X G (c.fact 52 (f := .free "range") rfl)
  have fr_repr : mg "repr" = none := He.free_ok X G (c.fact 53 (f := .free "repr") rfl)
  have fr_tuple : mg "tuple" = none := He.free_ok X G (c.fact 57 (f := .free "tuple") rfl)
  have c_exact_way := (cal_exact_way (P := P) (w := w) c X G)
  have c_refusal := (cal_refusal (P := P) (w := w) c X G)
  have c_is_exact := (cal_is_exact (P := P) (w := w) c X G)
  have c_is_refusal := (cal_is_refusal (P := P) (w := w) c X G)
  have c__law_pick := (cal__law_pick (P := P) (w := w) c X G)
  have c__law_sets := (cal__law_sets (P := P) (w := w) c X G)
  have c__law_is_exact := (cal__law_is_exact (P := P) (w := w) c X G)
  have c__law_is_refusal := (cal__law_is_refusal (P := P) (w := w) c X G)
  have c__law_bent := (cal__law_bent (P := P) (w := w) c X G 8)
  have c__law_made := (cal__law_made (P := P) (w := w) c X G)
  refine cal_of (N := N__law_right) (ps := ps__law_right) (k := 11) D (He.glo_ok X G (c.fact 38 (f := .glo "_law_right") rfl)) sc__law_right (fun _ _ _ _ _ _ us hl => match us, hl with | [_, _, _], _ => rfl) (fun _ z => nomatch z) (fun base cdv A out s H room gd => ?_)
  · have nd : N__law_right.Nodup := sc__law_right.nd
    have u100 := room_u room
    have u64 := room_u64 room
    have u65 := room_u65 room
    exact ss_cons (by exact g_bind ([3] ++ ([4] ++ [])) (by exact sv_tup (by exact svs_cons (by exact sv_b1 (bi_repr gd u100) rfl fr_repr (by exact so_of (by exact sv_lst (by exact svs_cons (by exact sv_v 1 rfl rfl rfl rfl) (by exact svs_cons (by exact sv_v 2 rfl rfl rfl rfl) (by exact svs_nil) rfl) rfl))) rfl rfl) (by exact svs_cons (by exact sv_b1 bi_len rfl fr_len (by exact so_v 1 rfl rfl rfl rfl) rfl rfl) (by exact svs_nil) rfl) rfl)) (by exact sg_tup rfl (by exact sgs_cons (by exact sg_name (pg_name nd rfl (by first | exact .inl rfl | exact .inr rfl) (.inl rfl))) (by exact sgs_cons (by exact sg_name (pg_name nd rfl (by first | exact .inl rfl | exact .inr rfl) (.inl rfl))) (by exact sgs_nil) rfl) rfl) rfl rfl) rfl rfl rfl) (by exact ss_cons (by exact g_par 5 6 rfl nd rfl rfl (by decide) rfl rfl (by exact sv_frz (by exact sv_c c_exact_way room (by first | decide | omega) gd rfl (by exact svs_cons (by exact sv_v 1 rfl rfl rfl rfl) (by exact svs_cons (by exact sv_v 2 rfl rfl rfl rfl) (by exact svs_nil) rfl) rfl) rfl rfl rfl)) (by exact sv_frz (by exact sv_c c_refusal room (by first | decide | omega) gd rfl (by exact svs_cons (by exact sv_v 1 rfl rfl rfl rfl) (by exact svs_cons (by exact sv_v 2 rfl rfl rfl rfl) (by exact svs_nil) rfl) rfl) rfl rfl rfl)) rfl rfl rfl rfl) (by exact ss_cons (by exact g_set 7 nd rfl (by first | exact .inl rfl | exact .inr rfl) (by exact sv_lst (by exact svs_cons (by exact sv_v 5 rfl rfl rfl rfl) (by exact svs_cons (by exact sv_v 6 rfl rfl rfl rfl) (by exact svs_cons (by exact sv_non) (by exact svs_cons (by exact sv_int) (by exact svs_cons (by exact sv_tup (by exact svs_nil)) (by exact svs_cons (by exact sv_str) (by exact svs_cons (by exact sv_tup (by exact svs_cons (by exact sv_str) (by exact svs_cons (by exact sv_tup (by exact svs_nil)) (by exact svs_nil) rfl) rfl)) (by exact svs_cons (by exact sv_tup (by exact svs_cons (by exact sv_str) (by exact svs_cons (by exact sv_trg rfl rfl fr_tuple rfl fr_range (by exact so_v 4 rfl rfl rfl rfl) rfl rfl) (by exact svs_nil) rfl) rfl)) (by exact svs_cons (by exact sv_tup (by exact svs_cons (by exact sv_str) (by exact svs_nil) rfl)) (by exact svs_cons (by exact sv_lst (by exact svs_cons (by exact sv_v 5 rfl rfl rfl rfl) (by exact svs_nil) rfl)) (by exact svs_nil) rfl) rfl) rfl) rfl) rfl) rfl) rfl) rfl) rfl) rfl)) rfl (.inl rfl)) (by exact ss_cons (by exact g_set 7 nd rfl (by first | exact .inl rfl | exact .inr rfl) (by exact sv_bin op_addA ok_add (by exact so_of (by exact sv_bin op_addA ok_add (by exact so_v 7 rfl rfl rfl rfl) (by exact so_of (by exact g_lc false [10] [("one", 10)] (by decide) rfl nd (by exact si_seq (by exact sv_slc (by exact so_of (by exact sv_c c__law_sets room (by first | decide | omega) gd rfl (by exact svs_cons (by exact sv_v 4 rfl rfl rfl rfl) (by exact svs_nil) rfl) rfl rfl rfl)) (by exact sp_none) (by exact sp_some (by exact so_of (by exact sv_int))))) (by kernel_rfl) (fun _ _ _ _ _ => by exact sg_name (pg_name nd rfl (by first | exact .inl rfl | exact .inr rfl) (by first | exact .inr rfl | exact .inl rfl))) (fun _ _ _ _ _ => by exact sps_nil) (fun _ _ _ _ _ => by exact sv_tup (by exact svs_cons (by exact sv_str) (by exact svs_cons (by exact sv_v 10 rfl rfl rfl rfl) (by exact svs_nil) rfl) rfl)) (fun _ => rfl))))) (by exact so_of (by exact g_lc false [14] [("time", 14)] (by decide) rfl nd (by exact si_rng1 rfl fr_range (by exact so_of (by exact sv_int)) rfl rfl) (by kernel_rfl) (fun _ _ _ _ _ => by exact sg_name (pg_name nd rfl (by first | exact .inl rfl | exact .inr rfl) (by first | exact .inr rfl | exact .inl rfl))) (fun _ _ _ _ _ => by exact sps_nil) (fun _ _ _ _ _ => by exact sv_cP c__law_made room (by first | decide | omega) gd rfl (nv 0 rfl rfl rfl rfl) (by exact svs_cons (by exact sv_v 1 rfl rfl rfl rfl) (by exact svs_cons (by exact sv_v 2 rfl rfl rfl rfl) (by exact svs_nil) rfl) rfl) rfl rfl rfl) (fun _ => rfl)))) rfl (.inl rfl)) (by exact ss_cons (by exact g_set 8 nd rfl (by first | exact .inl rfl | exact .inr rfl) (by exact sv_frz (by exact sv_ite (by exact sb_cmp op_notN ok_isnotN (by exact so_v 5 rfl rfl rfl rfl) (by exact so_of (by exact sv_non)) (nomark _)) (by exact sv_v 5 rfl rfl rfl rfl) (by exact sv_v 6 rfl rfl rfl rfl))) rfl (.inl rfl)) (by exact ss_cons (by exact g_set 7 nd rfl (by first | exact .inl rfl | exact .inr rfl) (by exact sv_bin op_addA ok_add (by exact so_v 7 rfl rfl rfl rfl) (by exact so_of (by exact g_lc false [14] [("time", 14)] (by decide) rfl nd (by exact si_rng1 rfl fr_range (by exact so_of (by exact sv_int)) rfl rfl) (by kernel_rfl) (fun _ _ _ _ _ => by exact sg_name (pg_name nd rfl (by first | exact .inl rfl | exact .inr rfl) (by first | exact .inr rfl | exact .inl rfl))) (fun _ _ _ _ _ => by exact sps_nil) (fun _ _ _ _ _ => by exact sv_cP c__law_bent room (by first | decide | omega) gd rfl (nv 0 rfl rfl rfl rfl) (by exact svs_cons (by exact sv_v 8 rfl rfl rfl rfl) (by exact svs_cons (by exact sv_b2 (bi_max rfl) rfl fr_max (by exact so_v 4 rfl rfl rfl rfl) (by exact so_of (by exact sv_b1 bi_len rfl fr_len (by exact so_v 2 rfl rfl rfl rfl) rfl rfl)) rfl rfl rfl) (by exact svs_nil) rfl) rfl) rfl rfl rfl) (fun _ => rfl)))) rfl (.inl rfl)) (by exact ss_cons (by exact g_for true ([9] ++ ([10] ++ [])) PassesOwn.never rfl (by exact si_enm rfl fr_enumerate (by exact sv_slc (by exact so_v 2 rfl rfl rfl rfl) (by exact sp_none) (by exact sp_some (by exact so_of (by exact sv_int)))) rfl rfl) (by exact sg_tup rfl (by exact sgs_cons (by exact sg_name (pg_name nd rfl (by first | exact .inl rfl | exact .inr rfl) (.inl rfl))) (by exact sgs_cons (by exact sg_name (pg_name nd rfl (by first | exact .inl rfl | exact .inr rfl) (.inl rfl))) (by exact sgs_nil) rfl) rfl) rfl rfl) (by exact ss_cons (by exact g_app 7 (nv 7 rfl rfl rfl rfl) (by exact sv_tup (by exact svs_cons (by exact sv_str) (by exact svs_cons (by exact sv_v 9 rfl rfl rfl rfl) (by exact svs_cons (by exact sv_t1 bt_tuple rfl fr_tuple (by exact so_of (by exact g_lc false [15] [("state", 15)] (by decide) rfl nd (by exact si_seq (by exact sv_v 10 rfl rfl rfl rfl)) (by kernel_rfl) (fun _ _ _ _ _ => by exact sg_name (pg_name nd rfl (by first | exact .inl rfl | exact .inr rfl) (by first | exact .inr rfl | exact .inl rfl))) (fun _ _ _ _ _ => by exact sps_nil) (fun _ _ _ _ _ => by exact sv_cP c__law_pick room (by first | decide | omega) gd rfl (nv 0 rfl rfl rfl rfl) (by exact svs_cons (by exact sv_v 10 rfl rfl rfl rfl) (by exact svs_nil) rfl) rfl rfl rfl) (fun _ => rfl))) rfl rfl) (by exact svs_nil) rfl) rfl) rfl)) ⟨rfl, rfl, rfl, rfl, rfl⟩ rfl) (by exact ss_nil)) (fun _ => rfl)) (by exact ss_cons (by exact g_for false [11] PassesOwn.never rfl (by exact si_seq (by exact sv_v 7 rfl rfl rfl rfl)) (by exact sg_name (pg_name nd rfl (by first | exact .inl rfl | exact .inr rfl) (.inl rfl))) (by exact ss_cons (by exact g_par 12 13 rfl nd rfl rfl (by decide) rfl rfl (by exact sv_b1 (bi_repr gd u100) rfl fr_repr (by exact so_v 11 rfl rfl rfl rfl) rfl rfl) (by exact sv_frz (by exact sv_lst (by exact svs_cons (by exact sv_c c__law_is_exact room (by first | decide | omega) gd rfl (by exact svs_cons (by exact sv_v 1 rfl rfl rfl rfl) (by exact svs_cons (by exact sv_v 2 rfl rfl rfl rfl) (by exact svs_cons (by exact sv_v 11 rfl rfl rfl rfl) (by exact svs_nil) rfl) rfl) rfl) rfl rfl rfl) (by exact svs_cons (by exact sv_c c__law_is_refusal room (by first | decide | omega) gd rfl (by exact svs_cons (by exact sv_v 1 rfl rfl rfl rfl) (by exact svs_cons (by exact sv_v 2 rfl rfl rfl rfl) (by exact svs_cons (by exact sv_v 11 rfl rfl rfl rfl) (by exact svs_nil) rfl) rfl) rfl) rfl rfl rfl) (by exact svs_nil) rfl) rfl))) rfl rfl rfl rfl) (by exact ss_cons (by exact ss_if (by exact g_pt (by exact sw_or (by exact sb_cmp (op_neA u64) ok_ne (by exact so_of (by exact sv_b1 (bi_repr gd u100) rfl fr_repr (by exact so_of (by exact sv_lst (by exact svs_cons (by exact sv_c c_is_exact room (by first | decide | omega) gd rfl (by exact svs_cons (by exact sv_v 1 rfl rfl rfl rfl) (by exact svs_cons (by exact sv_v 2 rfl rfl rfl rfl) (by exact svs_cons (by exact sv_v 11 rfl rfl rfl rfl) (by exact svs_nil) rfl) rfl) rfl) rfl rfl rfl) (by exact svs_cons (by exact sv_c c_is_refusal room (by first | decide | omega) gd rfl (by exact svs_cons (by exact sv_v 1 rfl rfl rfl rfl) (by exact svs_cons (by exact sv_v 2 rfl rfl rfl rfl) (by exact svs_cons (by exact sv_v 11 rfl rfl rfl rfl) (by exact svs_nil) rfl) rfl) rfl) rfl rfl rfl) (by exact svs_nil) rfl) rfl))) rfl rfl)) (by exact so_of (by exact sv_b1 (bi_repr gd u100) rfl fr_repr (by exact so_v 13 rfl rfl rfl rfl) rfl rfl)) (nomark _)) (by exact pw_or1 (by exact sb_cmp (op_neA u64) ok_ne (by exact so_of (by exact sv_b1 (bi_repr gd u100) rfl fr_repr (by exact so_v 11 rfl rfl rfl rfl) rfl rfl)) (by exact so_v 12 rfl rfl rfl rfl) (nomark _))))) (by exact ss_cons (by exact ss_ret (by exact sv_bl)) (by exact ss_nil)) (by exact ss_nil)) (by exact ss_cons (by exact ss_if (by exact sb_cmp (op_neA u64) ok_ne (by exact so_of (by exact sv_b1 (bi_repr gd u100) rfl fr_repr (by exact so_of (by exact sv_lst (by exact svs_cons (by exact sv_cK ["value", "messages", "faces"] [2, 1, 0] c_is_exact (by decide) room (by decide) gd rfl (by exact sk_cons (by exact sv_v 11 rfl rfl rfl rfl) (by exact sk_cons (by exact sv_v 2 rfl rfl rfl rfl) (by exact sk_cons (by exact sv_v 1 rfl rfl rfl rfl) (by exact sk_nil)))) rfl rfl rfl rfl) (by exact svs_cons (by exact sv_cK ["value", "messages", "faces"] [2, 1, 0] c_is_refusal (by decide) room (by decide) gd rfl (by exact sk_cons (by exact sv_v 11 rfl rfl rfl rfl) (by exact sk_cons (by exact sv_v 2 rfl rfl rfl rfl) (by exact sk_cons (by exact sv_v 1 rfl rfl rfl rfl) (by exact sk_nil)))) rfl rfl rfl rfl) (by exact svs_nil) rfl) rfl))) rfl rfl)) (by exact so_of (by exact sv_b1 (bi_repr gd u100) rfl fr_repr (by exact so_v 13 rfl rfl rfl rfl) rfl rfl)) (nomark _)) (by exact ss_cons (by exact ss_ret (by exact sv_bl)) (by exact ss_nil)) (by exact ss_nil)) (by exact ss_nil)))) (fun _ => rfl)) (by exact ss_cons (by exact ss_ret (by exact sv_cmp (op_eqA u64) ok_eq (by exact so_of (by exact sv_b1 (bi_repr gd u100) rfl fr_repr (by exact so_of (by exact sv_lst (by exact svs_cons (by exact sv_v 1 rfl rfl rfl rfl) (by exact svs_cons (by exact sv_v 2 rfl rfl rfl rfl) (by exact svs_nil) rfl) rfl))) rfl rfl)) (by exact so_v 3 rfl rfl rfl rfl) (nomark _))) (by exact ss_nil)))))))))
theorem sc_law : FnScope N_law ps_law (defScope (Hd.top 48)) := ⟨rfl, rfl, rfl, by decide +kernel, rfl, by decide +kernel, by decide +kernel⟩
theorem fn_law (c : He.SaysD Hd.fa Hd.fn K) (X : K.In h) (G : h.Ns mainGlobals mg) {fd : FuncData} (D : FunD K (Hd.dd 48 "law").name (Hd.dd 48 "law").qual (Hd.dd 48 "law").params (Hd.dd 48 "law").body (Hd.dd 48 "law").scope [] [] (He.fAd K ("law", none)) fd) (base : Heap) : FnM P w K mg base 13 (He.fAd K ("law", none)) fd ps_law N_law m_law := by
  have fr_range : mg "range" = none := He.free_ok X G (c.fact 52 (f := .free "range") rfl)
  have fr_tuple : mg "tuple" = none := He.free_ok X G (c.fact 57 (f := .free "tuple") rfl)
  have c__law_pot := (cal__law_pot (P := P) (w := w) c X G)
  have c__law_draw := (cal__law_draw (P := P) (w := w) c X G)
  have c__law_sets := (cal__law_sets (P := P) (w := w) c X G)
  have c__law_faces := (cal__law_faces (P := P) (w := w) c X G)
  have c__law_messages := (cal__law_messages (P := P) (w := w) c X G)
  have c__law_right := (cal__law_right (P := P) (w := w) c X G)
  refine FnM.of D sc_law (fun cdv A out s H room gd => ?_)
  · have nd : N_law.Nodup := sc_law.nd
    have u100 := room_u room
    have u64 := room_u64 room
    have u65 := room_u65 room
    exact ss_cons (by exact g_set 1 nd rfl (by first | exact .inl rfl | exact .inr rfl) (by exact sv_c c__law_pot room (by first | decide | omega) gd rfl (by exact svs_cons (by exact sv_v 0 rfl rfl rfl rfl) (by exact svs_cons (by exact sv_int) (by exact svs_nil) rfl) rfl) rfl rfl rfl) rfl (.inl rfl)) (by exact ss_cons (by exact g_for false [2] PassesOwn.never rfl (by exact si_rng1 rfl fr_range (by exact so_of (by exact sv_int)) rfl rfl) (by exact sg_name (pg_name nd rfl (by first | exact .inl rfl | exact .inr rfl) (.inl rfl))) (by exact ss_cons (by exact g_set 3 nd rfl (by first | exact .inl rfl | exact .inr rfl) (by exact sv_frz (by exact sv_bin op_addA ok_add (by exact so_of (by exact sv_int)) (by exact so_of (by exact sv_cP c__law_draw room (by first | decide | omega) gd rfl (nv 1 rfl rfl rfl rfl) (by exact svs_cons (by exact sv_int) (by exact svs_nil) rfl) rfl rfl rfl)))) rfl (.inl rfl)) (by exact ss_cons (by exact g_set 4 nd rfl (by first | exact .inl rfl | exact .inr rfl) (by exact sv_frz (by exact sv_cP c__law_faces room (by first | decide | omega) gd rfl (nv 1 rfl rfl rfl rfl) (by exact svs_cons (by exact sv_v 3 rfl rfl rfl rfl) (by exact svs_nil) rfl) rfl rfl rfl)) rfl (.inl rfl)) (by exact ss_cons (by exact ss_if (by exact g_pt (by exact sw_or (by exact sb_not (by exact sb_val (by exact sv_cP c__law_right room (by first | decide | omega) gd rfl (nv 1 rfl rfl rfl rfl) (by exact svs_cons (by exact sv_v 4 rfl rfl rfl rfl) (by exact svs_cons (by exact sv_cP c__law_messages room (by first | decide | omega) gd rfl (nv 1 rfl rfl rfl rfl) (by exact svs_cons (by exact sv_v 3 rfl rfl rfl rfl) (by exact svs_nil) rfl) rfl rfl rfl) (by exact svs_nil) rfl) rfl) rfl rfl rfl) (fun _ => rfl))) (by exact pw_or1 (by exact sb_not (by exact sb_val (by exact sv_cP c__law_right room (by first | decide | omega) gd rfl (nv 1 rfl rfl rfl rfl) (by exact svs_cons (by exact sv_v 4 rfl rfl rfl rfl) (by exact svs_cons (by exact sv_t1 bt_tuple rfl fr_tuple (by exact so_of (by exact sv_c c__law_sets room (by first | decide | omega) gd rfl (by exact svs_cons (by exact sv_v 3 rfl rfl rfl rfl) (by exact svs_nil) rfl) rfl rfl rfl)) rfl rfl) (by exact svs_nil) rfl) rfl) rfl rfl rfl) (fun _ => rfl)))))) (by exact ss_cons (by exact ss_ret (by exact sv_bl)) (by exact ss_nil)) (by exact ss_nil)) (by exact ss_nil)))) (fun _ => rfl)) (by exact ss_cons (by exact ss_ret (by exact sv_bl)) (by exact ss_nil)))
end
end Lw

set_option Elab.async false
set_option linter.all false
set_option maxRecDepth 100000
set_option maxHeartbeats 4000000
namespace Lw
open PySem PySem.Spec L2 Ev
abbrev rowD (n : Nat) (f : Nat → Int) : PyData := .tuple ((List.range n).map fun j => .int (f j))
abbrev facesD (n : Nat) (F : Nat → Nat → Int) : PyData := .tuple ((List.range n).map fun i => rowD n (F i))
/-- messages of states below n -/
structure Msg (n : Nat) (m : List Nat) : Prop where
  lt : ∀ s ∈ m, s < n
  len : m.length ≤ 100
theorem r_is_integer (d : PyData) : Ret m_is_integer [.vl d] ⟨.bool (d.isInt && !d.isBool), false⟩ := by
  simp [m_is_integer, isiD, isiF]
theorem r_does_envy {n : Nat} {F : Nat → Nat → Int} {i j : Nat} (hi : i < n) (hj : j < n) : Ret m_does_envy [.vl (facesD n F), .vl (nD i), .vl (nD j)] ⟨.bool (decide (F i i < F i j)), false⟩ := by
  simp [m_does_envy, atI_rng, hi, hj, gtD]
@[simp] theorem k_is_integer (d : PyData) (e : En) : runM N_is_integer.length ps_is_integer.length m_is_integer [d] e = some (.ok ⟨.bool (d.isInt && !d.isBool), false⟩ e) := runM_eq rfl rfl (r_is_integer d)
def posB (d : PyData) (n : Nat) : Bool := match d with
  | .int i => decide (0 ≤ i) && decide (i < n)
  | _ => false
theorem r_is_position (d : PyData) (n : Nat) : Ret m_is_position [.vl d, .vl (nD n)] ⟨.bool (posB d n), false⟩ := by
  cases d <;> simp [m_is_position, PyData.isInt, PyData.isBool, leD, ltD, posB]
@[simp] theorem k_is_position (d : PyData) (n : Nat) (e : En) : runM N_is_position.length ps_is_position.length m_is_position [d, nD n] e = some (.ok ⟨.bool (posB d n), false⟩ e) := runM_eq rfl rfl (r_is_position d n)
@[simp] theorem posB_nD (k n : Nat) : posB (nD k) n = decide (k < n) := by simp [posB]
theorem k_does_envy {n : Nat} {F : Nat → Nat → Int} {i j : Nat} (hi : i < n) (hj : j < n) (e : En) : runM N_does_envy.length ps_does_envy.length m_does_envy [facesD n F, nD i, nD j] e = some (.ok ⟨.bool (decide (F i i < F i j)), false⟩ e) := runM_eq rfl rfl (r_does_envy hi hj)
def fit (F : Nat → Nat → Int) (m : List Nat) : List Nat := m.filter fun s => !(m.any fun o => decide (F o o < F o s))
section
variable {n : Nat} {F : Nat → Nat → Int} {m : List Nat} {s : Nat} {ms : List (List Nat)}
theorem l_fit_of_0 (h : Msg n m) (hs : s < n) : c_fit_of_0 [.vl (facesD n F), .vl (mD m), .vl (nD s), .un] = some (.ok ⟨.list (m.map fun o => .bool (decide (F o o < F o s))), true⟩ [.vl (facesD n F), .vl (mD m), .vl (nD s), .un]) := by
  rw [c_fit_of_0, lc_t nD PyData.bool (fun o => some (decide (F o o < F o s))) (xs := m)]
  · simp
  · simp [seqM, itemsOf]
  · intro o ho
    exact ⟨[.vl (facesD n F), .vl (mD m), .vl (nD s), .vl (nD o)], by simp [turnM, k_does_envy (h.lt o ho) hs], by simp⟩
  · exact big h.len
  · simp
theorem l_fit_of_1 (h : Msg n m) : c_fit_of_1 [.vl (facesD n F), .vl (mD m), .un, .un] = some (.ok ⟨lnD (fit F m), true⟩ [.vl (facesD n F), .vl (mD m), .un, .un]) := by
  rw [c_fit_of_1, lc_t nD nD (fun s => if (!(m.any fun o => decide (F o o < F o s))) = true then some s else none) (xs := m)]
  · rw [filterMap_if, List.map_id']; exact congrArg (fun z => some (Rs.ok (⟨lnD z, true⟩ : RV) _)) (by unfold fit; exact List.filter_congr fun x _ => by rw [Bool.decide_eq_true])
  · simp [seqM, itemsOf]
  · intro s hs
    exact ⟨[.vl (facesD n F), .vl (mD m), .vl (nD s), .un], by simp [turnM, l_fit_of_0 h (h.lt s hs), anyF], by simp⟩
  · exact big h.len
  · simp
theorem k_fit_of (h : Msg n m) (e : En) : runM N_fit_of.length ps_fit_of.length m_fit_of [facesD n F, mD m] e = some (.ok ⟨mD (fit F m), false⟩ e) := runM_eq rfl rfl (by
  show Ret m_fit_of [.vl (facesD n F), .vl (mD m), .un, .un] _
  simp [m_fit_of, l_fit_of_1 h, tupleF])
theorem fit_msg (h : Msg n m) : Msg n (fit F m) := ⟨fun s hs => h.lt s ((List.mem_filter.mp hs).1), Nat.le_trans (List.length_filter_le _ _) h.len⟩
/-- the messages whose fit states a state is among -/
def ownS (F : Nat → Nat → Int) (ms : List (List Nat)) (s : Nat) : List Nat := (ms.zipIdx.filter fun p => decide (s ∈ fit F p.1)).map (·.2)
def ownL (n : Nat) (F : Nat → Nat → Int) (ms : List (List Nat)) : List (List Nat) := (List.range n).map (ownS F ms)
structure Msgs (n : Nat) (ms : List (List Nat)) : Prop where
  ok : ∀ m ∈ ms, Msg n m
  len : ms.length ≤ 100
  nle : n ≤ 100
theorem l_own_of_0 (h : Msgs n ms) : c_own_of_0 [.vl (facesD n F), .vl (msD ms), .un, .un, .un, .un, .un] = some (.ok ⟨lmD (ms.map (fit F)), true⟩ [.vl (facesD n F), .vl (msD ms), .un, .un, .un, .un, .un]) := by
  rw [c_own_of_0, lc_t mD mD (fun m => some (fit F m)) (xs := ms)]
  · simp
  · simp [seqM, itemsOf]
  · intro m hm
    exact ⟨[.vl (facesD n F), .vl (msD ms), .un, .vl (mD m), .un, .un, .un], by simp [turnM, k_fit_of (h.ok m hm)], by simp⟩
  · exact big h.len
  · simp
theorem l_own_of_1 (h : Msgs n ms) (s : Nat) : c_own_of_1 [.vl (facesD n F), .vl (msD ms), .vl (lmD (ms.map (fit F))), .un, .vl (nD s), .un, .un] = some (.ok ⟨lnD (ownS F ms s), true⟩ [.vl (facesD n F), .vl (msD ms), .vl (lmD (ms.map (fit F))), .un, .vl (nD s), .un, .un]) := by
  rw [c_own_of_1, lc_t (fun p : List Nat × Nat => PyData.tuple [nD p.2, mD p.1]) nD (fun p => if s ∈ p.1 then some p.2 else none) (xs := (ms.map (fit F)).zipIdx)]
  · simp [ownS, List.zipIdx_map, List.filter_map, Function.comp_def]
  · simp [enumM, seqM, itemsOf, List.zipIdx_map]
  · intro p hp
    exact ⟨[.vl (facesD n F), .vl (msD ms), .vl (lmD (ms.map (fit F))), .un, .vl (nD s), .vl (nD p.2), .vl (mD p.1)], by simp [turnM], by simp⟩
  · exact big (by simpa using h.len)
  · simp
theorem l_own_of_2 (h : Msgs n ms) : c_own_of_2 [.vl (facesD n F), .vl (msD ms), .vl (lmD (ms.map (fit F))), .un, .un, .un, .un] = some (.ok ⟨llD (ownL n F ms), true⟩ [.vl (facesD n F), .vl (msD ms), .vl (lmD (ms.map (fit F))), .un, .un, .un, .un]) := by
  rw [c_own_of_2, lc_t nD lnD (fun s => some (ownS F ms s)) (xs := List.range n)]
  · simp [ownL]
  · simp [rng1M, lenF, rngD_nat h.nle]
  · intro s hs
    exact ⟨[.vl (facesD n F), .vl (msD ms), .vl (lmD (ms.map (fit F))), .un, .vl (nD s), .un, .un], by simp [turnM, l_own_of_1 h], by simp⟩
  · exact big (by simpa using h.nle)
  · simp
theorem r_own_of (h : Msgs n ms) : Ret m_own_of [.vl (facesD n F), .vl (msD ms), .un, .un, .un, .un, .un] ⟨llD (ownL n F ms), true⟩ := by
  simp [m_own_of, l_own_of_0 h, l_own_of_2 h]
theorem k_own_of (h : Msgs n ms) (e : En) : runM N_own_of.length ps_own_of.length m_own_of [facesD n F, msD ms] e = some (.ok ⟨llD (ownL n F ms), true⟩ e) := runM_eq rfl rfl (r_own_of h)
end
end Lw

set_option Elab.async false
set_option linter.all false
set_option maxRecDepth 100000
set_option maxHeartbeats 4000000
namespace Lw
open PySem PySem.Spec L2 Ev
/-- one more row's choices behind a choice -/
def ext1 (so : List Nat) (t : List Nat) : List (List Nat) := (so.filter fun a => decide (a ∉ t)).map fun a => t ++ [a]
def bfs1 (line : List (List Nat)) (so : List Nat) : List (List Nat) := line.flatMap (ext1 so)
def bfs (own : List (List Nat)) : List (List Nat) := own.foldl bfs1 [[]]
def leastL (ms : List (List Nat)) : Option (List Nat) := match ms with
  | [] => none
  | m :: ms => some (minL m ms)
@[simp] theorem notin_mD (s : Nat) (m : List Nat) : (inD (nD s) (mD m)).map (!·) = some (!decide (s ∈ m)) := by simp
theorem addD_mD {a b : List Nat} (h : a.length + b.length ≤ most) : addD (mD a) (mD b) = some ⟨mD (a ++ b), false⟩ := by
  simp [addD, h]
theorem l_first_tells_0 {so : List Nat} {t : List Nat} (o l x : Sl) (hs : so.length ≤ 100) (ht : t.length ≤ 100) : c_first_tells_0 [o, l, .vl (lnD so), x, .vl (mD t), .un] = some (.ok ⟨lmD (ext1 so t), true⟩ [o, l, .vl (lnD so), x, .vl (mD t), .un]) := by
  rw [c_first_tells_0, lc_t nD mD (fun a => if a ∉ t then some (t ++ [a]) else none) (xs := so)]
  · simp [ext1, Function.comp_def]
  · simp [seqM, itemsOf]
  · intro a ha
    refine ⟨[o, l, .vl (lnD so), x, .vl (mD t), .vl (nD a)], ?_, by simp⟩
    have g : t.length + 1 ≤ most := by unfold most; omega
    by_cases h : a ∈ t <;> simp [turnM, h, addD, g]
  · exact big hs
  · simp
theorem ext1_len {so t : List Nat} : (ext1 so t).length ≤ so.length := by
  unfold ext1
  rw [List.length_map]
  exact List.length_filter_le _ _
theorem l_b_first_tells_0 {so t : List Nat} {acc : List (List Nat)} (o l y : Sl) (hs : so.length ≤ 100) (ht : t.length ≤ 100) (hz : acc.length + 100 ≤ most) :
    b_first_tells_0 (mD t) [o, l, .vl (lnD so), .ow false (acc.map mD), y, .un] = some (.ok .nx [o, l, .vl (lnD so), .ow false ((acc ++ ext1 so t).map mD), .vl (mD t), .un]) := by
  have g : acc.length + (ext1 so t).length ≤ most := by have := ext1_len (so := so) (t := t); omega
  simp [b_first_tells_0, bodyM, extM, l_first_tells_0 o l _ hs ht, itL, g]
theorem fold_acc {so : List Nat} : ∀ (line acc : List (List Nat)) (y : Sl), (line.foldl (fun (s : List (List Nat) × Sl) t => (s.1 ++ ext1 so t, Sl.vl (mD t))) (acc, y)).1 = acc ++ bfs1 line so
  | [], acc, y => by simp [bfs1]
  | t :: line, acc, y => by
    rw [List.foldl_cons, fold_acc line]
    simp [bfs1]
theorem bfs1_len {so : List Nat} {line : List (List Nat)} {k : Nat} (hs : so.length ≤ k) : (bfs1 line so).length ≤ line.length * k := by
  induction line with
  | nil => simp [bfs1]
  | cons t line ih =>
    have h := ext1_len (so := so) (t := t)
    unfold bfs1 at *
    rw [List.flatMap_cons, List.length_append, List.length_cons, Nat.succ_mul]
    omega
theorem bfs1_each {so : List Nat} {line : List (List Nat)} {k : Nat} (h : ∀ t ∈ line, t.length ≤ k) : ∀ t ∈ bfs1 line so, t.length ≤ k + 1 := by
  intro t ht
  obtain ⟨u, hu, hx⟩ := List.mem_flatMap.mp ht
  obtain ⟨a, _, rfl⟩ := List.mem_map.mp hx
  have := h u hu
  simp
  omega
theorem inner_line {so : List Nat} {line : List (List Nat)} (o l y : Sl) (hs : so.length ≤ 100) (ht : ∀ t ∈ line, t.length ≤ 100) (hz : line.length * 100 + 100 ≤ most) :
    ∃ y', forGo b_first_tells_0 (line.map mD) [o, l, .vl (lnD so), .ow false [], y, .un] = some (.ok .nx [o, l, .vl (lnD so), .ow false ((bfs1 line so).map mD), y', .un]) := by
  have := for_fold (step := b_first_tells_0) mD (fun (s : List (List Nat) × Sl) => [o, l, .vl (lnD so), .ow false (s.1.map mD), s.2, .un]) (fun s t => (s.1 ++ ext1 so t, .vl (mD t))) (fun s xs => (∀ t ∈ xs, t.length ≤ 100) ∧ s.1.length + xs.length * 100 + 100 ≤ most) line ([], y) ⟨ht, by simpa using hz⟩ (fun t xs s h => by
    obtain ⟨h1, h2⟩ := h
    refine ⟨l_b_first_tells_0 o l s.2 hs (h1 t List.mem_cons_self) (by simp only [List.length_cons] at h2; omega), fun u hu => h1 u (List.mem_cons_of_mem _ hu), ?_⟩
    have := ext1_len (so := so) (t := t)
    simp only [List.length_cons, List.length_append] at h2 ⊢
    omega)
  obtain ⟨h1, _⟩ := this
  exact ⟨_, by rw [show ([o, l, .vl (lnD so), .ow false [], y, .un] : En) = (fun (s : List (List Nat) × Sl) => [o, l, .vl (lnD so), .ow false (s.1.map mD), s.2, .un]) ([], y) from rfl, h1, fold_acc]; rfl⟩
theorem l_b_first_tells_1 {so : List Nat} {line : List (List Nat)} (o a b c : Sl) (hs : so.length ≤ 100) (ht : ∀ t ∈ line, t.length ≤ 100) (hz : line.length * 100 + 100 ≤ most) :
    ∃ y', b_first_tells_1 (lnD so) [o, .vl (lmD line), a, b, c, .un] = some (.ok .nx [o, .vl (lmD (bfs1 line so)), .vl (lnD so), .vl (lmD (bfs1 line so)), y', .un]) := by
  obtain ⟨y', h⟩ := inner_line o (.vl (lmD line)) c hs ht hz
  exact ⟨y', by simp [b_first_tells_1, bodyM, Ev.forM, seqM, itemsOf, h]⟩
theorem outer_line (o : Sl) : ∀ (own line : List (List Nat)) (a b c : Sl) (k : Nat), (∀ so ∈ own, so.length ≤ 15) → (∀ t ∈ line, t.length ≤ k) → k + own.length ≤ 100 → line.length * 15 ^ own.length ≤ 60000 →
    ∃ a' b' c', forGo b_first_tells_1 (own.map lnD) [o, .vl (lmD line), a, b, c, .un] = some (.ok .nx [o, .vl (lmD (own.foldl bfs1 line)), a', b', c', .un])
  | [], line, a, b, c, k, _, _, _, _ => ⟨a, b, c, rfl⟩
  | so :: own, line, a, b, c, k, hs, ht, hk, hz => by
    have e : line.length * 15 ^ (own.length + 1) = (line.length * 15) * 15 ^ own.length := by rw [Nat.pow_succ, Nat.mul_comm (15 ^ own.length), Nat.mul_assoc]
    have hz : line.length * 15 ^ (own.length + 1) ≤ 60000 := hz
    have p1 : 0 < 15 ^ own.length := Nat.pow_pos (by decide)
    have l9 : line.length * 15 ≤ 60000 := by
      have : (line.length * 15) * 1 ≤ (line.length * 15) * 15 ^ own.length := Nat.mul_le_mul_left _ p1
      omega
    obtain ⟨y', h⟩ := l_b_first_tells_1 (so := so) (line := line) o a b c (Nat.le_trans (hs so List.mem_cons_self) (by decide)) (fun t h => by have := ht t h; simp at hk; omega) (by unfold most; omega)
    have l1 := bfs1_len (line := line) (hs so List.mem_cons_self)
    obtain ⟨a', b', c', h2⟩ := outer_line o own (bfs1 line so) (.vl (lnD so)) (.vl (lmD (bfs1 line so))) y' (k + 1) (fun x hx => hs x (List.mem_cons_of_mem _ hx)) (bfs1_each ht) (by simp at hk; omega) (by
      rw [e] at hz
      exact Nat.le_trans (Nat.mul_le_mul_right _ l1) hz)
    refine ⟨a', b', c', ?_⟩
    rw [List.map_cons]
    unfold forGo
    rw [run_bind, h, bndR_ok]
    exact h2
theorem eqD_l0 (ms : List (List Nat)) : eqD (lmD ms) (.list []) = some (decide (ms = [])) := by
  have : PyData.eqv (lmD ms) (.list []) = decide (ms = []) := by cases ms <;> rfl
  simp [eqD, this]
def tellD : Option (List Nat) → PyData
  | some t => mD t
  | none => .none
theorem r_first_tells {own : List (List Nat)} (hs : ∀ so ∈ own, so.length ≤ 15) (hk : own.length ≤ 4) : Ret m_first_tells [.vl (llD own), .un, .un, .un, .un, .un] ⟨tellD (leastL (bfs own)), false⟩ := by
  have p : 15 ^ own.length ≤ 15 ^ 4 := Nat.pow_le_pow_right (by decide) hk
  obtain ⟨a, b, c, h⟩ := outer_line (.vl (llD own)) own [[]] .un .un .un 0 hs (by simp) (by omega) (by simp only [List.length_singleton, Nat.one_mul]; exact Nat.le_trans p (by decide))
  have h : forGo b_first_tells_1 (own.map lnD) [.vl (llD own), .vl (.list [.tuple []]), .un, .un, .un, .un] = some (.ok .nx [.vl (llD own), .vl (lmD (bfs own)), a, b, c, .un]) := h
  simp [m_first_tells, Ev.forM, seqM, itemsOf, h, eqD_l0]
  cases q : bfs own with
  | nil => simp [leastL, tellD]
  | cons m ms => simp [leastL, tellD, minG_mD]
end Lw

set_option Elab.async false
set_option linter.all false
set_option maxRecDepth 100000
set_option maxHeartbeats 4000000
namespace Lw
open PySem PySem.Spec L2 Ev
section
variable {n : Nat} {F : Nat → Nat → Int} {m : List Nat} {s : Nat} {ms : List (List Nat)}
theorem k_first_tells {own : List (List Nat)} (hs : ∀ so ∈ own, so.length ≤ 15) (hk : own.length ≤ 4) (e : En) : runM N_first_tells.length ps_first_tells.length m_first_tells [llD own] e = some (.ok ⟨tellD (leastL (bfs own)), false⟩ e) := runM_eq rfl rfl (r_first_tells hs hk)
theorem ownS_len : (ownS F ms s).length ≤ ms.length := by
  unfold ownS
  rw [List.length_map]
  exact Nat.le_trans (List.length_filter_le _ _) (by simp)
/-- as the drawn things are -/
structure Good (n : Nat) (ms : List (List Nat)) : Prop extends Msgs n ms where
  n4 : n ≤ 4
  l15 : ms.length ≤ 15
theorem k_tells (h : Good n ms) (e : En) : runM N_first_tells.length ps_first_tells.length m_first_tells [llD (ownL n F ms)] e = some (.ok ⟨tellD (leastL (bfs (ownL n F ms))), false⟩ e) := by
  refine k_first_tells (fun so hso => ?_) (by simpa [ownL] using h.n4) e
  obtain ⟨s, _, rfl⟩ := List.mem_map.mp hso
  exact Nat.le_trans ownS_len h.l15
@[simp] theorem in_lmD0 (m : List (List Nat)) : inD (.tuple []) (lmD m) = some (decide ([] ∈ m)) := in_lmD [] m
@[simp] theorem isN_none : isND .none .none = some true := rfl
@[simp] theorem isN_tup (ds : List PyData) : isND (.tuple ds) .none = some false := rfl
@[simp] theorem isN_tell (x : Option (List Nat)) : isND (tellD x) .none = some (decide (x = none)) := by cases x <;> rfl
theorem idx_nD (t : List Nat) (k : Nat) : (t.map Int.ofNat).idxOf (k : Int) = t.idxOf k := by
  induction t with
  | nil => rfl
  | cons x t ih =>
    rw [List.map_cons, List.idxOf_cons, List.idxOf_cons, ih]
    by_cases h : x = k
    · subst h; simp
    · have e1 : (Int.ofNat x == (k : Int)) = false := by
        rw [beq_eq_false_iff_ne]
        exact fun z => h (Int.ofNat.inj z)
      have e2 : (x == k) = false := by rwa [beq_eq_false_iff_ne]
      rw [e1, e2]
theorem index_mD {t : List Nat} {k : Nat} (h : k ∈ t) : indexD (mD t) (nD k) = some ⟨nD (t.idxOf k), false⟩ := by
  have hm : (k : Int) ∈ t.map Int.ofNat := List.mem_map.mpr ⟨k, h, rfl⟩
  simp only [indexD, intsOf_nD]
  rw [if_pos hm, idx_nD]
@[simp] theorem atI_zero {α : Type} (x : α) (xs : List α) : atI (x :: xs) 0 = some x := by
  simp [atI, ixN]
def readT (t : List Nat) (fs : List (List Nat)) : List Nat := fs.zipIdx.map fun p => if p.2 ∈ t then t.idxOf p.2 else p.1.headD 0
theorem l_exact_of_0 (h : Msgs n ms) : c_exact_of_0 [.vl (facesD n F), .vl (msD ms), .un, .un, .un, .un, .un, .un] = some (.ok ⟨lmD (ms.map (fit F)), true⟩ [.vl (facesD n F), .vl (msD ms), .un, .un, .un, .un, .un, .un]) := by
  rw [c_exact_of_0, lc_t mD mD (fun m => some (fit F m)) (xs := ms)]
  · simp
  · simp [seqM, itemsOf]
  · intro m hm
    exact ⟨[.vl (facesD n F), .vl (msD ms), .un, .un, .un, .vl (mD m), .un, .un], by simp [turnM, k_fit_of (h.ok m hm)], by simp⟩
  · exact big h.len
  · simp
theorem l_exact_of_1 {fs : List (List Nat)} {t : List Nat} (a b : Sl) (hl : fs.length ≤ 100) (h0 : [] ∉ fs) : c_exact_of_1 [a, b, .vl (lmD fs), .vl (mD t), .un, .un, .un, .un] = some (.ok ⟨lnD (readT t fs), true⟩ [a, b, .vl (lmD fs), .vl (mD t), .un, .un, .un, .un]) := by
  rw [c_exact_of_1, lc_t (fun p : List Nat × Nat => PyData.tuple [nD p.2, mD p.1]) nD (fun p => some (if p.2 ∈ t then t.idxOf p.2 else p.1.headD 0)) (xs := fs.zipIdx)]
  · simp [readT]
  · simp [enumM, seqM, itemsOf]
  · intro p hp
    have hf : p.1 ∈ fs := by
      obtain ⟨x, i⟩ := p
      exact List.fst_mem_of_mem_zipIdx hp
    refine ⟨[a, b, .vl (lmD fs), .vl (mD t), .un, .un, .vl (nD p.2), .vl (mD p.1)], ?_, by simp⟩
    by_cases hm : p.2 ∈ t
    · simp [turnM, hm, indexM, PyData.isTuple, isLst, index_mD]
    · cases q : p.1 with
      | nil => rw [q] at hf; exact absurd hf h0
      | cons x xs => simp [turnM, hm, q]
  · exact big (by simpa using hl)
  · simp
/-- the told way -/
def exactT (n : Nat) (F : Nat → Nat → Int) (ms : List (List Nat)) : Option (List Nat × List Nat) :=
  if [] ∈ ms.map (fit F) then none else (leastL (bfs (ownL n F ms))).map fun t => (t, readT t (ms.map (fit F)))
def wayD : Option (List Nat × List Nat) → PyData
  | some (t, r) => .tuple [mD t, mD r]
  | none => .none
theorem r_exact_of (h : Good n ms) : Ret m_exact_of [.vl (facesD n F), .vl (msD ms), .un, .un, .un, .un, .un, .un] ⟨wayD (exactT n F ms), false⟩ := by
  by_cases h0 : [] ∈ ms.map (fit F)
  · simp [m_exact_of, l_exact_of_0 h.toMsgs, h0, exactT, wayD]
  · cases q : leastL (bfs (ownL n F ms)) with
    | none => simp [m_exact_of, l_exact_of_0 h.toMsgs, h0, exactT, wayD, k_own_of h.toMsgs, k_tells h, q, tellD]
    | some t => simp [m_exact_of, l_exact_of_0 h.toMsgs, h0, exactT, wayD, k_own_of h.toMsgs, k_tells h, q, tellD, l_exact_of_1 _ _ (show (ms.map (fit F)).length ≤ 100 by simpa using h.len) h0, tupleF]
theorem k_exact_of (h : Good n ms) (e : En) : runM N_exact_of.length ps_exact_of.length m_exact_of [facesD n F, msD ms] e = some (.ok ⟨wayD (exactT n F ms), false⟩ e) := runM_eq rfl rfl (r_exact_of h)
end
end Lw

set_option Elab.async false
set_option linter.all false
set_option maxRecDepth 100000
set_option maxHeartbeats 4000000
namespace Lw
open PySem PySem.Spec L2 Ev
theorem le_of (a b : PyData) : PySem.W.dataLe false id a b = !PySem.W.dataLt b a := rfl
theorem sort_known {ds ys : List PyData} (hp : ys.Perm ds) (hs : ys.Pairwise fun a b => PySem.W.dataLt b a = false) (anti : ∀ a ∈ ds, ∀ b ∈ ds, PySem.W.dataLt a b = false → PySem.W.dataLt b a = false → a = b) : sortL ds = ys := by
  have tl := PySem.W.sortLe_total (PyProof.Rows.listOrd PyProof.Rows.itemOrd) false fun b : PyData => PySem.W.keyToks (id b)
  have h1 : (sortL ds).Pairwise fun a b => PySem.W.dataLe false id a b = true := List.pairwise_mergeSort tl.trans (fun a b => Bool.or_eq_true_iff.mpr (tl.total a b)) ds
  have h2 : ys.Pairwise fun a b => PySem.W.dataLe false id a b = true := hs.imp fun h => by rw [le_of, h]; rfl
  have p1 : (sortL ds).Perm ds := List.mergeSort_perm ds _
  refine List.Perm.eq_of_pairwise (fun a b ha hb h3 h4 => ?_) h1 h2 (p1.trans hp.symm)
  rw [le_of] at h3 h4
  exact anti a (p1.mem_iff.mp ha) b (hp.mem_iff.mp hb) (by simpa using h4) (by simpa using h3)
theorem ltL_anti : ∀ {a b : List Nat}, ltL a b = false → ltL b a = false → a = b
  | [], [], _, _ => rfl
  | [], _ :: _, h, _ => by simp [ltL] at h
  | _ :: _, [], _, h => by simp [ltL] at h
  | x :: a, y :: b, h1, h2 => by
    unfold ltL at h1 h2
    by_cases e : x = y
    · subst e
      simp at h1 h2
      rw [ltL_anti h1 h2]
    · have e' : ¬ y = x := fun z => e z.symm
      simp [e, e'] at h1 h2
      omega
theorem sort_rows {xs ys : List (List Nat)} (hp : ys.Perm xs) (hs : ys.Pairwise fun a b => ltL b a = false) : sortL (xs.map mD) = ys.map mD := by
  refine sort_known (hp.map mD) (List.pairwise_map.mpr (hs.imp fun h => by rw [dataLt_mD]; exact h)) ?_
  rintro a ha b hb h1 h2
  obtain ⟨x, _, rfl⟩ := List.mem_map.mp ha
  obtain ⟨y, _, rfl⟩ := List.mem_map.mp hb
  rw [dataLt_mD] at h1 h2
  rw [ltL_anti h1 h2]
theorem sortable_rows {xs : List (List Nat)} (h : [] ∉ xs) : sortable (xs.map mD) = true := by
  unfold sortable
  have h1 : (xs.map mD).all notBare = true := by
    simp only [List.all_eq_true, List.mem_map]
    rintro d ⟨a, ha, rfl⟩
    cases a with
    | nil => exact absurd ha h
    | cons x a => rfl
  have h2 : (xs.map mD).all isTupD = true := by
    simp only [List.all_eq_true, List.mem_map]
    rintro d ⟨a, ha, rfl⟩
    rfl
  rw [h1, h2]
  rfl
theorem sortedF_rows {xs ys : List (List Nat)} (h : [] ∉ xs) (hl : xs.length ≤ most) (hp : ys.Perm xs) (hs : ys.Pairwise fun a b => ltL b a = false) : sortedF [lmD xs] = some ⟨lmD ys, true⟩ := by
  show (if alikeL (xs.map mD) = true ∧ sortable (xs.map mD) = true ∧ (xs.map mD).length ≤ most ∧ PyData.depthAll (xs.map mD) ≤ 60 then some (⟨.list (sortL (xs.map mD)), true⟩ : RV) else none) = _
  rw [if_pos ⟨alikeL_mD xs, sortable_rows h, by simpa using hl, depthAll_mD xs⟩, sort_rows hp hs]
def subs (n : Nat) : List (List Nat) := (List.range n).foldl (fun found s => found ++ found.map (fun t => t ++ [s])) [[]]
def fullL : Nat → List (List Nat)
  | 1 => [[0]]
  | 2 => [[0], [0, 1], [1]]
  | 3 => [[0], [0, 1], [0, 1, 2], [0, 2], [1], [1, 2], [2]]
  | 4 => [[0], [0, 1], [0, 1, 2], [0, 1, 2, 3], [0, 1, 3], [0, 2], [0, 2, 3], [0, 3], [1], [1, 2], [1, 2, 3], [1, 3], [2], [2, 3], [3]]
  | _ => []
theorem four {n : Nat} {p : Nat → Prop} (h1 : 1 ≤ n) (h4 : n ≤ 4) (a : p 1) (b : p 2) (c : p 3) (d : p 4) : p n := by
  obtain rfl | rfl | rfl | rfl : n = 1 ∨ n = 2 ∨ n = 3 ∨ n = 4 := by omega
  · exact a
  · exact b
  · exact c
  · exact d
theorem full_perm {n : Nat} (h1 : 1 ≤ n) (h4 : n ≤ 4) : (fullL n).Perm ((subs n).filter fun t => !decide (t = [])) := four (p := fun n => (fullL n).Perm ((subs n).filter fun t => !decide (t = []))) h1 h4 (by decide +kernel) (by decide +kernel) (by decide +kernel) (by decide +kernel)
theorem full_sorted {n : Nat} (h1 : 1 ≤ n) (h4 : n ≤ 4) : (fullL n).Pairwise fun a b => ltL b a = false := four (p := fun n => (fullL n).Pairwise fun a b => ltL b a = false) h1 h4 (by decide +kernel) (by decide +kernel) (by decide +kernel) (by decide +kernel)
theorem subs_len {n : Nat} (h1 : 1 ≤ n) (h4 : n ≤ 4) : (subs n).length ≤ 16 := four (p := fun n => (subs n).length ≤ 16) h1 h4 (by decide +kernel) (by decide +kernel) (by decide +kernel) (by decide +kernel)
section
variable {n : Nat}
theorem l_full_of_0 {found : List (List Nat)} {s : Nat} (a : Sl) (hl : found.length ≤ 100) (ht : ∀ t ∈ found, t.length ≤ 100) : c_full_of_0 [a, .vl (lmD found), .vl (nD s), .un] = some (.ok ⟨lmD (found.map fun t => t ++ [s]), true⟩ [a, .vl (lmD found), .vl (nD s), .un]) := by
  rw [c_full_of_0, lc_t mD mD (fun t => some (t ++ [s])) (xs := found)]
  · simp
  · simp [seqM, itemsOf]
  · intro t hm
    have g : t.length + 1 ≤ most := by have := ht t hm; unfold most; omega
    exact ⟨[a, .vl (lmD found), .vl (nD s), .vl (mD t)], by simp [turnM, addD, g], by simp⟩
  · exact big hl
  · simp
theorem l_b_full_of_0 {found : List (List Nat)} {s : Nat} (a b : Sl) (hl : found.length ≤ 40) (ht : ∀ t ∈ found, t.length ≤ 100) : b_full_of_0 (nD s) [a, .vl (lmD found), b, .un] = some (.ok .nx [a, .vl (lmD (found ++ found.map fun t => t ++ [s])), .vl (nD s), .un]) := by
  have g : found.length + found.length ≤ most := by unfold most; omega
  simp [b_full_of_0, bodyM, l_full_of_0 a (Nat.le_trans hl (by decide)) ht, addD, g]
theorem loop_full (a b : Sl) (h4 : n ≤ 4) : ∃ b', forGo b_full_of_0 ((List.range n).map nD) [a, .vl (lmD [[]]), b, .un] = some (.ok .nx [a, .vl (lmD (subs n)), b', .un]) := by
  have := for_fold (step := b_full_of_0) nD (fun (s : List (List Nat) × Sl) => [a, .vl (lmD s.1), s.2, .un]) (fun s t => (s.1 ++ s.1.map (fun u => u ++ [t]), .vl (nD t))) (fun s xs => s.1.length * 2 ^ xs.length ≤ 16 ∧ ∀ t ∈ s.1, t.length + xs.length ≤ 4) (List.range n) ([[]], b) ⟨by
      simp only [List.length_singleton, Nat.one_mul, List.length_range]
      exact Nat.le_trans (Nat.pow_le_pow_right (by decide) h4) (by decide), by simpa using h4⟩ (fun x xs s ⟨h1, h2⟩ => by
    have e : s.1.length * 2 ^ (xs.length + 1) = (s.1.length + s.1.length) * 2 ^ xs.length := by rw [Nat.pow_succ, Nat.mul_comm (2 ^ xs.length), ← Nat.mul_assoc, Nat.mul_two]
    have h1 : s.1.length * 2 ^ (xs.length + 1) ≤ 16 := h1
    have p1 : 0 < 2 ^ xs.length := Nat.pow_pos (by decide)
    have l : s.1.length + s.1.length ≤ 16 := by
      have : (s.1.length + s.1.length) * 1 ≤ (s.1.length + s.1.length) * 2 ^ xs.length := Nat.mul_le_mul_left _ p1
      omega
    refine ⟨l_b_full_of_0 a s.2 (by omega) (fun t ht => by have := h2 t ht; omega), by simpa using (by omega : (s.1.length + s.1.length) * 2 ^ xs.length ≤ 16), fun t ht => ?_⟩
    have ht : t ∈ s.1 ++ s.1.map (fun u => u ++ [x]) := ht
    rcases List.mem_append.mp ht with ht | ht
    · have := h2 t ht
      simp only [List.length_cons] at this
      omega
    · obtain ⟨u, hu, rfl⟩ := List.mem_map.mp ht
      have := h2 u hu
      simp only [List.length_cons, List.length_append, List.length_nil] at this ⊢
      omega)
  obtain ⟨h1, _⟩ := this
  have fold : ∀ (xs : List Nat) (f : List (List Nat)) (y : Sl), (xs.foldl (fun (s : List (List Nat) × Sl) t => (s.1 ++ s.1.map (fun u => u ++ [t]), Sl.vl (nD t))) (f, y)).1 = xs.foldl (fun found s => found ++ found.map (fun t => t ++ [s])) f := by
    intro xs
    induction xs with
    | nil => intro f y; rfl
    | cons x xs ih => intro f y; exact ih _ _
  exact ⟨_, by rw [show ([a, .vl (lmD [[]]), b, .un] : En) = (fun (s : List (List Nat) × Sl) => [a, .vl (lmD s.1), s.2, .un]) ([[]], b) from rfl, h1, fold]; rfl⟩
theorem l_full_of_1 {found : List (List Nat)} (a b : Sl) (hl : found.length ≤ 100) : c_full_of_1 [a, .vl (lmD found), b, .un] = some (.ok ⟨lmD (found.filter fun t => !decide (t = [])), true⟩ [a, .vl (lmD found), b, .un]) := by
  rw [c_full_of_1, lc_t mD mD (fun t => if t = [] then none else some t) (xs := found)]
  · simp
  · simp [seqM, itemsOf]
  · intro t hm
    refine ⟨[a, .vl (lmD found), b, .vl (mD t)], ?_, by simp⟩
    by_cases h : t = [] <;> simp [turnM, h]
  · exact big hl
  · simp
theorem sorted_subs (h1 : 1 ≤ n) (h4 : n ≤ 4) : sortedF [lmD ((subs n).filter fun t => !decide (t = []))] = some ⟨lmD (fullL n), true⟩ :=
  sortedF_rows (by simp) (Nat.le_trans (List.length_filter_le _ _) (Nat.le_trans (subs_len h1 h4) (by decide))) (full_perm h1 h4) (full_sorted h1 h4)
theorem for_full (h4 : n ≤ 4) : ∃ b', Ev.forM (rng1M (readO 0)) b_full_of_0 [.vl (nD n), .vl (.list [.tuple []]), .un, .un] = some (.ok .nx [.vl (nD n), .vl (lmD (subs n)), b', .un]) := by
  obtain ⟨b', h⟩ := loop_full (.vl (nD n)) .un h4
  exact ⟨b', run_for (by simp [rng1M, rngD_nat (show n ≤ 100 by omega)]) h⟩
theorem r_full_of (h1 : 1 ≤ n) (h4 : n ≤ 4) : Ret m_full_of [.vl (nD n), .un, .un, .un] ⟨msD (fullL n), false⟩ := by
  obtain ⟨b', h2⟩ := for_full h4
  have l := l_full_of_1 (.vl (nD n)) b' (Nat.le_trans (subs_len h1 h4) (by decide))
  refine ret_of (e1 := [.vl (nD n), .vl (lmD (subs n)), b', .un]) ?_
  rw [m_full_of, run_then (e1 := [.vl (nD n), .vl (.list [.tuple []]), .un, .un]) (by simp), run_then h2]
  exact run_thenR (run_ret (by simp [l, sorted_subs h1 h4, tupleF]))
theorem r__law_sets (h1 : 1 ≤ n) (h4 : n ≤ 4) : Ret m__law_sets [.vl (nD n), .un, .un, .un] ⟨lmD (fullL n), true⟩ := by
  obtain ⟨b', h2⟩ := for_full h4
  have h2 : Ev.forM (rng1M (readO 0)) b__law_sets_0 [.vl (nD n), .vl (.list [.tuple []]), .un, .un] = some (.ok .nx [.vl (nD n), .vl (lmD (subs n)), b', .un]) := h2
  have l : c__law_sets_1 [.vl (nD n), .vl (lmD (subs n)), b', .un] = some (.ok ⟨lmD ((subs n).filter fun t => !decide (t = [])), true⟩ [.vl (nD n), .vl (lmD (subs n)), b', .un]) := l_full_of_1 (.vl (nD n)) b' (Nat.le_trans (subs_len h1 h4) (by decide))
  refine ret_of (e1 := [.vl (nD n), .vl (lmD (subs n)), b', .un]) ?_
  rw [m__law_sets, run_then (e1 := [.vl (nD n), .vl (.list [.tuple []]), .un, .un]) (by simp), run_then h2]
  exact run_thenR (run_ret (by simp [l, sorted_subs h1 h4]))
theorem k_full_of (h1 : 1 ≤ n) (h4 : n ≤ 4) (e : En) : runM N_full_of.length ps_full_of.length m_full_of [nD n] e = some (.ok ⟨msD (fullL n), false⟩ e) := runM_eq rfl rfl (r_full_of h1 h4)
theorem k__law_sets (h1 : 1 ≤ n) (h4 : n ≤ 4) (e : En) : runM N__law_sets.length ps__law_sets.length m__law_sets [nD n] e = some (.ok ⟨lmD (fullL n), true⟩ e) := runM_eq rfl rfl (r__law_sets h1 h4)
end
end Lw

set_option Elab.async false
set_option linter.all false
set_option maxRecDepth 100000
set_option maxHeartbeats 4000000
namespace Lw
open PySem PySem.Spec L2 Ev
abbrev pD (p : Nat × List Nat) : PyData := .tuple [nD p.1, mD p.2]
def ltP (p q : Nat × List Nat) : Bool := if p.1 = q.1 then ltL p.2 q.2 else decide (p.1 < q.1)
theorem dataLt_pD (p q : Nat × List Nat) : PySem.W.dataLt (pD p) (pD q) = ltP p q := by
  obtain ⟨i, a⟩ := p
  obtain ⟨j, b⟩ := q
  rw [PySem.W.dataLt_tuple]
  by_cases h : i = j
  · subst h
    rw [PySem.W.dataLt_all_yes (by rfl) (by simp)]
    by_cases e : a = b
    · subst e
      rw [PySem.W.dataLt_all_yes (by simp only [PySem.W.alike]; exact alike_mD a a) (by simp)]
      have : ltL a a = false := by
        cases q : ltL a a with
        | false => rfl
        | true =>
          have self : ∀ a : List Nat, ltL a a = false := fun a => by induction a with
            | nil => rfl
            | cons x a ih => simp [ltL, ih]
          rw [self] at q
          cases q
      simp only [ltP, if_true, this]
      rfl
    · rw [PySem.W.dataLt_all_no (by simp only [PySem.W.alike]; exact alike_mD a b) (by rw [eqv_mD]; simp [e]), dataLt_mD]
      simp [ltP]
  · rw [PySem.W.dataLt_all_no (by rfl) (by rw [eqv_nD]; simp [h]), dataLt_nD]
    simp [ltP, h]
theorem ltP_anti {p q : Nat × List Nat} (h1 : ltP p q = false) (h2 : ltP q p = false) : p = q := by
  obtain ⟨i, a⟩ := p
  obtain ⟨j, b⟩ := q
  unfold ltP at h1 h2
  by_cases e : i = j
  · subst e
    simp at h1 h2
    rw [ltL_anti h1 h2]
  · have e' : ¬ j = i := fun z => e z.symm
    simp [e, e'] at h1 h2
    omega
theorem sortedF_pairs {xs ys : List (Nat × List Nat)} (hl : xs.length ≤ most) (hp : ys.Perm xs) (hs : ys.Pairwise fun a b => ltP b a = false) : sortedF [.list (xs.map pD)] = some ⟨.list (ys.map pD), true⟩ := by
  have h1 : alikeL (xs.map pD) = true := by
    unfold alikeL
    simp only [List.all_eq_true, List.mem_map]
    rintro d ⟨a, _, rfl⟩ d' ⟨b, _, rfl⟩
    simp only [PySem.W.alike, PySem.W.alikeAll, alike_mD, Bool.and_true]
  have h2 : sortable (xs.map pD) = true := by
    unfold sortable
    have a : (xs.map pD).all notBare = true := by
      simp only [List.all_eq_true, List.mem_map]
      rintro d ⟨a, ha, rfl⟩
      rfl
    have b : (xs.map pD).all isTupD = true := by
      simp only [List.all_eq_true, List.mem_map]
      rintro d ⟨a, ha, rfl⟩
      rfl
    rw [a, b]
    rfl
  have h3 : PyData.depthAll (xs.map pD) ≤ 60 := Nat.le_trans (depth_map pD 2 (fun p => by
    have := depth_mD p.2
    simp only [PyData.depth, PyData.depthAll] at this ⊢
    omega) xs) (by decide)
  show (if alikeL (xs.map pD) = true ∧ sortable (xs.map pD) = true ∧ (xs.map pD).length ≤ most ∧ PyData.depthAll (xs.map pD) ≤ 60 then some (⟨.list (sortL (xs.map pD)), true⟩ : RV) else none) = _
  rw [if_pos ⟨h1, h2, by simpa using hl, h3⟩]
  rw [sort_known (hp.map pD) (List.pairwise_map.mpr (hs.imp fun h => by rw [dataLt_pD]; exact h)) ?_]
  rintro a ha b hb h1 h2
  obtain ⟨x, _, rfl⟩ := List.mem_map.mp ha
  obtain ⟨y, _, rfl⟩ := List.mem_map.mp hb
  rw [dataLt_pD] at h1 h2
  rw [ltP_anti h1 h2]
def bySize : Nat → List (List Nat)
  | 1 => [[0]]
  | 2 => [[0], [1], [0, 1]]
  | 3 => [[0], [1], [2], [0, 1], [0, 2], [1, 2], [0, 1, 2]]
  | 4 => [[0], [1], [2], [3], [0, 1], [0, 2], [0, 3], [1, 2], [1, 3], [2, 3], [0, 1, 2], [0, 1, 3], [0, 2, 3], [1, 2, 3], [0, 1, 2, 3]]
  | _ => []
def sized (m : List Nat) : Nat × List Nat := (m.length, m)
section
variable {n : Nat} {F : Nat → Nat → Int} {m : List Nat} {s : Nat} {ms : List (List Nat)}
theorem size_sorted (h1 : 1 ≤ n) (h4 : n ≤ 4) : sortedF [.list (((fullL n).map sized).map pD)] = some ⟨.list (((bySize n).map sized).map pD), true⟩ :=
  sortedF_pairs (four (p := fun n => ((fullL n).map sized).length ≤ most) h1 h4 (by decide) (by decide) (by decide) (by decide)) (four (p := fun n => ((bySize n).map sized).Perm ((fullL n).map sized)) h1 h4 (by decide +kernel) (by decide +kernel) (by decide +kernel) (by decide +kernel))
    (four (p := fun n => ((bySize n).map sized).Pairwise fun a b => ltP b a = false) h1 h4 (by decide +kernel) (by decide +kernel) (by decide +kernel) (by decide +kernel))
theorem full_len (h1 : 1 ≤ n) (h4 : n ≤ 4) : (fullL n).length ≤ 15 := four (p := fun n => (fullL n).length ≤ 15) h1 h4 (by decide) (by decide) (by decide) (by decide)
theorem size_len (h1 : 1 ≤ n) (h4 : n ≤ 4) : (bySize n).length ≤ 15 := four (p := fun n => (bySize n).length ≤ 15) h1 h4 (by decide) (by decide) (by decide) (by decide)
theorem l_sets_by_size_0 (h1 : 1 ≤ n) (h4 : n ≤ 4) : c_sets_by_size_0 [.vl (nD n), .un, .un] = some (.ok ⟨.list (((fullL n).map sized).map pD), true⟩ [.vl (nD n), .un, .un]) := by
  rw [c_sets_by_size_0, lc_t mD pD (fun m => some (sized m)) (xs := fullL n)]
  · simp
  · simp [seqM, itemsOf, k_full_of h1 h4]
  · intro m hm
    exact ⟨[.vl (nD n), .un, .vl (mD m)], by simp [turnM, lenF, sized], by simp⟩
  · exact Nat.le_trans (full_len h1 h4) (by decide)
  · simp
theorem l_sets_by_size_1 (h1 : 1 ≤ n) (h4 : n ≤ 4) : c_sets_by_size_1 [.vl (nD n), .un, .un] = some (.ok ⟨lmD (bySize n), true⟩ [.vl (nD n), .un, .un]) := by
  rw [c_sets_by_size_1, lc_t pD mD (fun p => some p.2) (xs := (bySize n).map sized)]
  · simp [sized, Function.comp_def]
  · have z := size_sorted h1 h4
    rw [List.map_map, List.map_map] at z
    simp [seqM, itemsOf, l_sets_by_size_0 h1 h4, z]
  · intro p hp
    exact ⟨[.vl (nD n), .vl (nD p.1), .vl (mD p.2)], by simp [turnM], by simp⟩
  · exact Nat.le_trans (by simpa using size_len h1 h4) (show 15 ≤ most by decide)
  · simp
theorem k_sets_by_size (h1 : 1 ≤ n) (h4 : n ≤ 4) (e : En) : runM N_sets_by_size.length ps_sets_by_size.length m_sets_by_size [nD n] e = some (.ok ⟨lmD (bySize n), true⟩ e) := runM_eq rfl rfl (by
  refine ret_of (e1 := [.vl (nD n), .un, .un]) ?_
  rw [m_sets_by_size]
  exact run_thenR (run_ret (l_sets_by_size_1 h1 h4)))
/-! are_short -/
theorem atI_own (hs : s < n) : atI (ownL n F ms) (s : Int) = some (ownS F ms s) := atI_range (ownS F ms) n s hs
def cnt (m : List Nat) : Nat := (distL (m.map Int.ofNat)).length
def shortB (F : Nat → Nat → Int) (ms : List (List Nat)) (t : List Nat) : Bool := decide (cnt (t.flatMap (ownS F ms)) < t.length)
theorem loop_short (h : Good n ms) (a : Sl) : ∀ (t seen : List Nat) (b : Sl), (∀ s ∈ t, s < n) → seen.length + t.length * 15 ≤ 900 →
    ∃ b', forGo b_are_short_0 (t.map nD) [.vl (llD (ownL n F ms)), a, .ow false (seen.map nD), b] = some (.ok .nx [.vl (llD (ownL n F ms)), a, .ow false ((seen ++ t.flatMap (ownS F ms)).map nD), b'])
  | [], seen, b, _, _ => ⟨b, by simp [forGo]⟩
  | s :: t, seen, b, hs, hz => by
    have l := Nat.le_trans (ownS_len (F := F) (s := s) (ms := ms)) h.l15
    simp only [List.length_cons] at hz
    have g : seen.length + (ownS F ms s).length ≤ most := by unfold most; omega
    have st : b_are_short_0 (nD s) [.vl (llD (ownL n F ms)), a, .ow false (seen.map nD), b] = some (.ok .nx [.vl (llD (ownL n F ms)), a, .ow false ((seen ++ ownS F ms s).map nD), .vl (nD s)]) := by
      simp [b_are_short_0, bodyM, extM, itL, atI_own (hs s List.mem_cons_self), g]
    obtain ⟨b', h'⟩ := loop_short h a t (seen ++ ownS F ms s) (.vl (nD s)) (fun x hx => hs x (List.mem_cons_of_mem _ hx)) (by rw [List.length_append]; omega)
    refine ⟨b', ?_⟩
    rw [List.map_cons]
    unfold forGo
    rw [run_bind, st, bndR_ok]
    rw [List.flatMap_cons, ← List.append_assoc]
    exact h'
theorem k_are_short (h : Good n ms) {t : List Nat} (ht : ∀ s ∈ t, s < n) (hl : t.length ≤ 4) (e : En) : runM N_are_short.length ps_are_short.length m_are_short [llD (ownL n F ms), mD t] e = some (.ok ⟨.bool (shortB F ms t), false⟩ e) := runM_eq rfl rfl (by
  obtain ⟨b', hb⟩ := loop_short (F := F) h (.vl (mD t)) t [] .un ht (by simp only [List.length_nil]; omega)
  have hb : forGo b_are_short_0 (t.map nD) [.vl (llD (ownL n F ms)), .vl (mD t), .ow false [], .un] = some (.ok .nx [.vl (llD (ownL n F ms)), .vl (mD t), .ow false ((t.flatMap (ownS F ms)).map nD), b']) := hb
  have l : (t.flatMap (ownS F ms)).length ≤ 1000 := by
    have : ∀ t : List Nat, (t.flatMap (ownS F ms)).length ≤ t.length * 15 := fun t => by
      induction t with
      | nil => simp
      | cons x t ih =>
        have := Nat.le_trans (ownS_len (F := F) (s := x) (ms := ms)) h.l15
        rw [List.flatMap_cons, List.length_append, List.length_cons]
        omega
    have := this t
    omega
  refine ret_of (e1 := [.vl (llD (ownL n F ms)), .vl (mD t), .ow false ((t.flatMap (ownS F ms)).map nD), b']) ?_
  show m_are_short [.vl (llD (ownL n F ms)), .vl (mD t), .un, .un] = _
  rw [m_are_short, run_then (e1 := [.vl (llD (ownL n F ms)), .vl (mD t), .ow false [], .un]) (by simp), run_then (run_for (by simp [seqM, itemsOf]) hb)]
  refine run_thenR (run_ret ?_)
  unfold shortB cnt
  clear hb
  generalize t.flatMap (ownS F ms) = z at *
  simp [lenSetD, Ev.numsOf, itemsOf, lenF, ltD, l])
end
end Lw

set_option Elab.async false
set_option linter.all false
set_option maxRecDepth 100000
set_option maxHeartbeats 4000000
namespace Lw
open PySem PySem.Spec L2 Ev
section
variable {n : Nat} {F : Nat → Nat → Int} {m : List Nat} {s : Nat} {ms : List (List Nat)}
def envs1 (F : Nat → Nat → Int) (m : List Nat) (s : Nat) : List Nat := m.filter fun o => decide (F o o < F o s)
def envs (F : Nat → Nat → Int) (m : List Nat) : List Nat := m.map fun s => (envs1 F m s).headD 0
theorem l_first_enviers_0 (h : Msg n m) (hs : s < n) : c_first_enviers_0 [.vl (facesD n F), .vl (mD m), .vl (nD s), .un] = some (.ok ⟨lnD (envs1 F m s), true⟩ [.vl (facesD n F), .vl (mD m), .vl (nD s), .un]) := by
  rw [c_first_enviers_0, lc_t nD nD (fun o => if F o o < F o s then some o else none) (xs := m)]
  · simp [envs1]
  · simp [seqM, itemsOf]
  · intro o ho
    refine ⟨[.vl (facesD n F), .vl (mD m), .vl (nD s), .vl (nD o)], ?_, by simp⟩
    by_cases q : F o o < F o s <;> simp [turnM, k_does_envy (h.lt o ho) hs, q]
  · exact big h.len
  · simp
theorem envs_ne (hf : fit F m = []) (hs : s ∈ m) : envs1 F m s ≠ [] := fun z => by
  have h1 : s ∉ fit F m := by rw [hf]; simp
  have h2 : (m.any fun o => decide (F o o < F o s)) = false := by
    rw [List.any_eq_false]
    intro o ho q
    have : o ∈ envs1 F m s := List.mem_filter.mpr ⟨ho, q⟩
    rw [z] at this
    cases this
  exact h1 (List.mem_filter.mpr ⟨hs, by rw [h2]; rfl⟩)
theorem l_first_enviers_1 (h : Msg n m) (hf : fit F m = []) : c_first_enviers_1 [.vl (facesD n F), .vl (mD m), .un, .un] = some (.ok ⟨lnD (envs F m), true⟩ [.vl (facesD n F), .vl (mD m), .un, .un]) := by
  rw [c_first_enviers_1, lc_t nD nD (fun s => some ((envs1 F m s).headD 0)) (xs := m)]
  · simp [envs]
  · simp [seqM, itemsOf]
  · intro s hs
    refine ⟨[.vl (facesD n F), .vl (mD m), .vl (nD s), .un], ?_, by simp⟩
    have l := l_first_enviers_0 (F := F) h (h.lt s hs)
    cases q : envs1 F m s with
    | nil => exact absurd q (envs_ne hf hs)
    | cons x xs =>
      rw [q] at l
      simp [turnM, l]
  · exact big h.len
  · simp
theorem k_first_enviers (h : Msg n m) (hf : fit F m = []) (e : En) : runM N_first_enviers.length ps_first_enviers.length m_first_enviers [facesD n F, mD m] e = some (.ok ⟨mD (envs F m), false⟩ e) := runM_eq rfl rfl (by
  refine ret_of (e1 := [.vl (facesD n F), .vl (mD m), .un, .un]) ?_
  show m_first_enviers [.vl (facesD n F), .vl (mD m), .un, .un] = _
  rw [m_first_enviers]
  exact run_thenR (run_ret (by simp [l_first_enviers_1 h hf, tupleF])))
/-! refusal_of -/
def barD (F : Nat → Nat → Int) (m : List Nat) (at_ : Nat) : PyData := .tuple [.str "barred", nD at_, mD (envs F m)]
def shoD (t : List Nat) : PyData := .tuple [.str "short", mD t]
def barS (F : Nat → Nat → Int) (ms : List (List Nat)) : Option PyData := ms.zipIdx.findSome? fun p => if fit F p.1 = [] then some (barD F p.1 p.2) else none
def shoS (n : Nat) (F : Nat → Nat → Int) (ms : List (List Nat)) : Option PyData := (bySize n).findSome? fun t => if shortB F ms t = true then some (shoD t) else none
def refD (n : Nat) (F : Nat → Nat → Int) (ms : List (List Nat)) : PyData := match barS F ms with
  | some d => d
  | none => match shoS n F ms with
    | some d => d
    | none => .none
theorem size_lt (h1 : 1 ≤ n) (h4 : n ≤ 4) : ∀ t ∈ bySize n, (∀ s ∈ t, s < n) ∧ t.length ≤ 4 := four (p := fun n => ∀ t ∈ bySize n, (∀ s ∈ t, s < n) ∧ t.length ≤ 4) h1 h4 (by decide) (by decide) (by decide) (by decide)
theorem loop_bar (h : Msgs n ms) : ∃ s' : Sl × Sl, forGo b_refusal_of_0 (ms.zipIdx.map fun p => PyData.tuple [nD p.2, mD p.1]) [.vl (facesD n F), .vl (msD ms), .un, .un, .un, .un] =
    some (.ok (match barS F ms with | some d => .rt ⟨d, false⟩ | none => .nx) [.vl (facesD n F), .vl (msD ms), s'.1, s'.2, .un, .un]) := by
  have := for_find (step := b_refusal_of_0) (fun p : List Nat × Nat => PyData.tuple [nD p.2, mD p.1]) (fun s : Sl × Sl => [.vl (facesD n F), .vl (msD ms), s.1, s.2, .un, .un]) (fun p => if fit F p.1 = [] then some (⟨barD F p.1 p.2, false⟩ : RV) else none) ms.zipIdx (.un, .un) (fun p hp s => by
    have hm : p.1 ∈ ms := by
      obtain ⟨x, i⟩ := p
      exact List.fst_mem_of_mem_zipIdx hp
    refine ⟨(.vl (nD p.2), .vl (mD p.1)), ?_⟩
    by_cases q : fit F p.1 = []
    · simp [b_refusal_of_0, bodyM, k_fit_of (h.ok _ hm), q, k_first_enviers (h.ok _ hm) q, barD]
    · simp [b_refusal_of_0, bodyM, k_fit_of (h.ok _ hm), q])
  obtain ⟨s', h'⟩ := this
  refine ⟨s', ?_⟩
  rw [show ([.vl (facesD n F), .vl (msD ms), .un, .un, .un, .un] : En) = (fun s : Sl × Sl => [.vl (facesD n F), .vl (msD ms), s.1, s.2, .un, .un]) (.un, .un) from rfl, h']
  have e : (ms.zipIdx.findSome? fun p => if fit F p.1 = [] then some (⟨barD F p.1 p.2, false⟩ : RV) else none) = (barS F ms).map fun d => ⟨d, false⟩ := by
    unfold barS
    rw [List.map_findSome?]
    congr 1
    funext p
    simp only [Function.comp]
    split <;> rfl
  rw [e]
  cases barS F ms <;> rfl
theorem loop_sho (h : Good n ms) (h1 : 1 ≤ n) (a b : Sl) : ∃ s' : Sl, forGo b_refusal_of_1 ((bySize n).map mD) [.vl (facesD n F), .vl (msD ms), a, b, .vl (llD (ownL n F ms)), .un] =
    some (.ok (match shoS n F ms with | some d => .rt ⟨d, false⟩ | none => .nx) [.vl (facesD n F), .vl (msD ms), a, b, .vl (llD (ownL n F ms)), s']) := by
  have := for_find (step := b_refusal_of_1) mD (fun s : Sl => [.vl (facesD n F), .vl (msD ms), a, b, .vl (llD (ownL n F ms)), s]) (fun t => if shortB F ms t = true then some (⟨shoD t, false⟩ : RV) else none) (bySize n) .un (fun t ht s => by
    obtain ⟨z1, z2⟩ := size_lt h1 h.n4 t ht
    refine ⟨.vl (mD t), ?_⟩
    by_cases q : shortB F ms t = true
    · simp [b_refusal_of_1, bodyM, k_are_short h z1 z2, q, shoD]
    · simp [b_refusal_of_1, bodyM, k_are_short h z1 z2, q])
  obtain ⟨s', h'⟩ := this
  refine ⟨s', ?_⟩
  rw [h']
  have e : ((bySize n).findSome? fun t => if shortB F ms t = true then some (⟨shoD t, false⟩ : RV) else none) = (shoS n F ms).map fun d => ⟨d, false⟩ := by
    unfold shoS
    rw [List.map_findSome?]
    congr 1
    funext p
    simp only [Function.comp]
    split <;> rfl
  rw [e]
  cases shoS n F ms <;> rfl
theorem k_refusal_of (h : Good n ms) (h1 : 1 ≤ n) (e : En) : runM N_refusal_of.length ps_refusal_of.length m_refusal_of [facesD n F, msD ms] e = some (.ok ⟨refD n F ms, false⟩ e) := runM_eq rfl rfl (by
  obtain ⟨s1, l1⟩ := loop_bar (F := F) h.toMsgs
  have f1 := run_for (mi := enumM (readV 1)) (e := [.vl (facesD n F), .vl (msD ms), .un, .un, .un, .un]) (by simp [enumM, seqM, itemsOf]) l1
  show Ret m_refusal_of [.vl (facesD n F), .vl (msD ms), .un, .un, .un, .un] _
  cases q : barS F ms with
  | some d =>
    rw [q] at f1
    refine ret_of (r := ⟨refD n F ms, false⟩) (e1 := [.vl (facesD n F), .vl (msD ms), s1.1, s1.2, .un, .un]) ?_
    have : refD n F ms = d := by unfold refD; rw [q]
    rw [this, m_refusal_of]
    exact run_thenR f1
  | none =>
    rw [q] at f1
    obtain ⟨s2, l2⟩ := loop_sho (F := F) h h1 s1.1 s1.2
    have f2 := run_for (mi := seqM (callM N_sets_by_size.length ps_sets_by_size.length m_sets_by_size (do let d ← valM (op1L lenF (readO 0)); let ds ← (pure []); pure (d :: ds)))) (e := [.vl (facesD n F), .vl (msD ms), s1.1, s1.2, .vl (llD (ownL n F ms)), .un]) (by simp [seqM, itemsOf, lenF, k_sets_by_size h1 h.n4]) l2
    have st : setM 4 (frzM (callM N_own_of.length ps_own_of.length m_own_of (do let d ← valM (readV 0); let ds ← (do let d ← valM (readV 1); let ds ← (pure []); pure (d :: ds)); pure (d :: ds)))) [.vl (facesD n F), .vl (msD ms), s1.1, s1.2, .un, .un] = some (.ok .nx [.vl (facesD n F), .vl (msD ms), s1.1, s1.2, .vl (llD (ownL n F ms)), .un]) := by simp [k_own_of h.toMsgs]
    refine ret_of (r := ⟨refD n F ms, false⟩) (e1 := [.vl (facesD n F), .vl (msD ms), s1.1, s1.2, .vl (llD (ownL n F ms)), s2]) ?_
    rw [m_refusal_of, run_then f1, run_then st]
    cases q2 : shoS n F ms with
    | some d =>
      rw [q2] at f2
      have : refD n F ms = d := by unfold refD; rw [q]; simp only [q2]
      rw [this]
      exact run_thenR f2
    | none =>
      rw [q2] at f2
      have : refD n F ms = .none := by unfold refD; rw [q]; simp only [q2]
      rw [this, run_then f2]
      exact run_thenR (run_ret (by simp)))
end
end Lw

set_option Elab.async false
set_option linter.all false
set_option maxRecDepth 100000
set_option maxHeartbeats 4000000
namespace Lw
open PySem PySem.Spec L2 Ev
theorem cut_tail {α : Type} (f : α → PyData) (m : List α) : cutD (m.map f) (some 1) none = (m.drop 1).map f := by
  unfold cutD
  cases m with
  | nil => rfl
  | cons x m =>
    have e1 : HT.sIx ((x :: m).map f).length 0 (some 1) = 1 := by simp [HT.sIx]
    have e2 : HT.sIx ((x :: m).map f).length ((x :: m).map f).length none = ((x :: m).map f).length := rfl
    rw [e1, e2]
    simp only [List.map_cons, List.drop_succ_cons, List.drop_zero, List.length_cons, List.length_map, Nat.add_sub_cancel]
    rw [← List.length_map (f := f), List.take_length]
@[simp] theorem zw_map {α β : Type} (f : α → PyData) (g : β → PyData) : ∀ (xs : List α) (ys : List β), List.zipWith (fun d e => PyData.tuple [d, e]) (xs.map f) (ys.map g) = (xs.zip ys).map fun p => .tuple [f p.1, g p.2]
  | [], _ => rfl
  | _ :: _, [] => rfl
  | x :: xs, y :: ys => by simp [zw_map f g xs ys]
@[simp] theorem zw_tail {α : Type} (f : α → PyData) (xs : List α) : List.zipWith (fun d e => PyData.tuple [d, e]) (xs.map f) (xs.map f).tail = (xs.zip xs.tail).map fun p => .tuple [f p.1, f p.2] := by
  rw [← List.map_tail, zw_map]
theorem zip_len {α β : Type} {xs : List α} {ys : List β} (h : xs.length ≤ 100) : (xs.zip ys).length ≤ most := by
  rw [List.length_zip]
  exact Nat.le_trans (Nat.min_le_left _ _) (Nat.le_trans h (by decide))
@[simp] theorem slc_tail {α : Type} (f : α → PyData) (m : List α) : slcD (some 1) none (.tuple (m.map f)) = some ⟨.tuple ((m.drop 1).map f), false⟩ := by
  show lit (.tuple (cutD (m.map f) (some 1) none)) = _
  rw [cut_tail]
@[simp] theorem alls_comp {α : Type} (f : α → Bool) (l : List α) : allF [.list (l.map fun x => PyData.bool (f x))] = some ⟨.bool (l.all f), false⟩ := by
  have : (List.all (l.map f) id) = l.all f := by simp
  simp only [allF, boolsOf_comp, Option.map_some, this]
@[simp] theorem anys_comp {α : Type} (f : α → Bool) (l : List α) : anyF [.list (l.map fun x => PyData.bool (f x))] = some ⟨.bool (l.any f), false⟩ := by
  have : (List.any (l.map f) id) = l.any f := by simp
  simp only [anyF, boolsOf_comp, Option.map_some, this]
def asc (m : List Nat) : Bool := (m.zip m.tail).all fun p => decide (p.1 < p.2)
def ascL (ms : List (List Nat)) : Bool := (ms.zip ms.tail).all fun p => ltL p.1 p.2
section
variable {n : Nat} {F : Nat → Nat → Int} {m : List Nat} {s : Nat} {ms : List (List Nat)}
/-- small worths -/
def Small (n : Nat) (F : Nat → Nat → Int) : Prop := ∀ i j, i < n → j < n → -99 ≤ F i j ∧ F i j ≤ 99
theorem l_row_is_right (f : Nat → Int) (h : ∀ j, j < n → -99 ≤ f j ∧ f j ≤ 99) (h4 : n ≤ 4) (x : Sl) : c_row_is_right_0 [.vl (rowD n f), x, .un] = some (.ok ⟨.list ((List.range n).map fun _ => .bool true), true⟩ [.vl (rowD n f), x, .un]) := by
  rw [c_row_is_right_0, lc_t (fun j : Nat => PyData.int (f j)) (fun b : Bool => PyData.bool b) (fun j => some true) (xs := List.range n)]
  · simp
  · simp [seqM, itemsOf]
  · intro j hj
    obtain ⟨a, b⟩ := h j (List.mem_range.mp hj)
    exact ⟨[.vl (rowD n f), x, .vl (.int (f j))], by simp [turnM, PyData.isInt, PyData.isBool, negD, leD, a, b], by simp⟩
  · simpa using Nat.le_trans h4 (show 4 ≤ most by decide)
  · simp
theorem k_row_is_right (f : Nat → Int) (h : ∀ j, j < n → -99 ≤ f j ∧ f j ≤ 99) (h4 : n ≤ 4) (e : En) : runM N_row_is_right.length ps_row_is_right.length m_row_is_right [rowD n f, nD n] e = some (.ok ⟨.bool true, false⟩ e) := runM_eq rfl rfl (by
  refine ret_of (e1 := [.vl (rowD n f), .vl (nD n), .un]) ?_
  show m_row_is_right [.vl (rowD n f), .vl (nD n), .un] = _
  rw [m_row_is_right, run_then (e1 := [.vl (rowD n f), .vl (nD n), .un]) (by simp [isiD, isiF, PyData.isTuple, lenF])]
  exact run_thenR (run_ret (by simp [l_row_is_right f h h4])))
theorem k_faces_are_right (h : Small n F) (h1 : 1 ≤ n) (h4 : n ≤ 4) (e : En) : runM N_faces_are_right.length ps_faces_are_right.length m_faces_are_right [facesD n F] e = some (.ok ⟨.bool true, false⟩ e) := runM_eq rfl rfl (by
  have l : c_faces_are_right_0 [.vl (facesD n F), .un] = some (.ok ⟨.list ((List.range n).map fun _ => .bool true), true⟩ [.vl (facesD n F), .un]) := by
    rw [c_faces_are_right_0, lc_t (fun i : Nat => rowD n (F i)) (fun b : Bool => PyData.bool b) (fun j => some true) (xs := List.range n)]
    · simp
    · simp [seqM, itemsOf]
    · intro i hi
      exact ⟨[.vl (facesD n F), .vl (rowD n (F i))], by simp [turnM, lenF, k_row_is_right (F i) (fun j hj => h i j (List.mem_range.mp hi) hj) h4], by simp⟩
    · simpa using Nat.le_trans h4 (show 4 ≤ most by decide)
    · simp
  refine ret_of (e1 := [.vl (facesD n F), .un]) ?_
  show m_faces_are_right [.vl (facesD n F), .un] = _
  have g1 : (1 : Int) ≤ n := by omega
  have g4 : (n : Int) ≤ 4 := by omega
  rw [m_faces_are_right, run_then (e1 := [.vl (facesD n F), .un]) (by simp [isiD, isiF, PyData.isTuple, lenF, leD, g1, g4])]
  exact run_thenR (run_ret (by simp [l])))
theorem l_set_is_right_0 (hm : ∀ s ∈ m, s < n) (hl : m.length ≤ 100) : c_set_is_right_0 [.vl (mD m), .vl (nD n), .un, .un, .un] = some (.ok ⟨.list (m.map fun _ => .bool true), true⟩ [.vl (mD m), .vl (nD n), .un, .un, .un]) := by
  rw [c_set_is_right_0, lc_t nD (fun b : Bool => PyData.bool b) (fun j => some true) (xs := m)]
  · simp
  · simp [seqM, itemsOf]
  · intro j hj
    exact ⟨[.vl (mD m), .vl (nD n), .vl (nD j), .un, .un], by simp [turnM, hm j hj], by simp⟩
  · exact big hl
  · simp
theorem l_set_is_right_1 (hl : m.length ≤ 100) (x : Sl) : c_set_is_right_1 [.vl (mD m), x, .un, .un, .un] = some (.ok ⟨.list ((m.zip m.tail).map fun p => .bool (decide (p.1 < p.2))), true⟩ [.vl (mD m), x, .un, .un, .un]) := by
  rw [c_set_is_right_1, lc_t (fun p : Nat × Nat => PyData.tuple [nD p.1, nD p.2]) (fun b : Bool => PyData.bool b) (fun p => some (decide (p.1 < p.2))) (xs := m.zip m.tail)]
  · simp
  · simp [zipM, slcM, partM, itemsOf]
  · intro p hp
    exact ⟨[.vl (mD m), x, .un, .vl (nD p.1), .vl (nD p.2)], by simp [turnM, ltD], by simp⟩
  · exact zip_len hl
  · simp
/-- the messages as they are drawn -/
structure Fine (n : Nat) (ms : List (List Nat)) : Prop extends Good n ms where
  n1 : 1 ≤ n
  one : 1 ≤ ms.length
  ne : ∀ m ∈ ms, m ≠ []
  up : ∀ m ∈ ms, asc m = true
  ups : ascL ms = true
  cov : ∀ s, s < n → (ms.any fun m => decide (s ∈ m)) = true
theorem all_true {α : Type} (l : List α) : (l.all fun _ => true) = true := by simp
theorem k_set_is_right (hm : Msg n m) (h0 : m ≠ []) (ha : asc m = true) (e : En) : runM N_set_is_right.length ps_set_is_right.length m_set_is_right [mD m, nD n] e = some (.ok ⟨.bool true, false⟩ e) := runM_eq rfl rfl (by
  refine ret_of (e1 := [.vl (mD m), .vl (nD n), .un, .un, .un]) ?_
  show m_set_is_right [.vl (mD m), .vl (nD n), .un, .un, .un] = _
  have a : allF [.list ((m.zip m.tail).map fun p => .bool (decide (p.1 < p.2)))] = some ⟨.bool true, false⟩ := by
    rw [alls_comp]
    exact congrArg (fun b => some (⟨.bool b, false⟩ : RV)) ha
  have b : allF [.list (m.map fun _ => .bool true)] = some ⟨.bool true, false⟩ := by
    rw [alls_comp, all_true]
  rw [m_set_is_right, run_then (e1 := [.vl (mD m), .vl (nD n), .un, .un, .un]) (by simp [isiD, isiF, PyData.isTuple, h0, l_set_is_right_0 hm.lt hm.len, -alls_comp, b])]
  exact run_thenR (run_ret (by simp [l_set_is_right_1 hm.len, -alls_comp, a])))
theorem l_msgs_0 (h : Fine n ms) : c_messages_are_right_0 [.vl (facesD n F), .vl (msD ms), .un, .un, .un, .un] = some (.ok ⟨.list (ms.map fun _ => .bool true), true⟩ [.vl (facesD n F), .vl (msD ms), .un, .un, .un, .un]) := by
  rw [c_messages_are_right_0, lc_t mD (fun b : Bool => PyData.bool b) (fun j => some true) (xs := ms)]
  · simp
  · simp [seqM, itemsOf]
  · intro m hm
    exact ⟨[.vl (facesD n F), .vl (msD ms), .vl (mD m), .un, .un, .un], by simp [turnM, lenF, k_set_is_right (h.ok m hm) (h.ne m hm) (h.up m hm)], by simp⟩
  · exact big h.len
  · simp
theorem lt_mDD (a b : List Nat) : ltD (mD a) (mD b) = some (ltL a b) := by
  have hd : PyData.depthAll (a.map nD) ≤ 60 := Nat.le_trans (depth_map nD 0 (fun _ => Nat.le_refl _) a) (by decide)
  show (if PySem.W.alikeAll (a.map nD) (b.map nD) = true ∧ PyData.depthAll (a.map nD) ≤ 60 then some (PySem.W.dataLt (mD a) (mD b)) else none) = _
  rw [if_pos ⟨alike_mD a b, hd⟩, dataLt_mD]
theorem l_msgs_1 (h : Fine n ms) : c_messages_are_right_1 [.vl (facesD n F), .vl (msD ms), .un, .un, .un, .un] = some (.ok ⟨.list ((ms.zip ms.tail).map fun p => .bool (ltL p.1 p.2)), true⟩ [.vl (facesD n F), .vl (msD ms), .un, .un, .un, .un]) := by
  rw [c_messages_are_right_1, lc_t (fun p : List Nat × List Nat => PyData.tuple [mD p.1, mD p.2]) (fun b : Bool => PyData.bool b) (fun p => some (ltL p.1 p.2)) (xs := ms.zip ms.tail)]
  · simp
  · simp [zipM, slcM, partM, itemsOf]
  · intro p hp
    exact ⟨[.vl (facesD n F), .vl (msD ms), .un, .vl (mD p.1), .vl (mD p.2), .un], by simp [turnM, lt_mDD], by simp⟩
  · exact zip_len h.len
  · simp
theorem l_msgs_2 (h : Fine n ms) (s : Nat) : c_messages_are_right_2 [.vl (facesD n F), .vl (msD ms), .un, .un, .un, .vl (nD s)] = some (.ok ⟨.list (ms.map fun m => .bool (decide (s ∈ m))), true⟩ [.vl (facesD n F), .vl (msD ms), .un, .un, .un, .vl (nD s)]) := by
  rw [c_messages_are_right_2, lc_t mD (fun b : Bool => PyData.bool b) (fun m => some (decide (s ∈ m))) (xs := ms)]
  · simp
  · simp [seqM, itemsOf]
  · intro m hm
    exact ⟨[.vl (facesD n F), .vl (msD ms), .vl (mD m), .un, .un, .vl (nD s)], by simp [turnM], by simp⟩
  · exact big h.len
  · simp
theorem l_msgs_3 (h : Fine n ms) : c_messages_are_right_3 [.vl (facesD n F), .vl (msD ms), .un, .un, .un, .un] = some (.ok ⟨.list ((List.range n).map fun s => .bool true), true⟩ [.vl (facesD n F), .vl (msD ms), .un, .un, .un, .un]) := by
  rw [c_messages_are_right_3, lc_t nD (fun b : Bool => PyData.bool b) (fun s => some true) (xs := List.range n)]
  · simp
  · simp [rng1M, lenF, rngD_nat h.nle]
  · intro s hs
    have a : anyF [.list (ms.map fun m => .bool (decide (s ∈ m)))] = some ⟨.bool true, false⟩ := by
      rw [anys_comp]
      exact congrArg (fun b => some (⟨.bool b, false⟩ : RV)) (h.cov s (List.mem_range.mp hs))
    exact ⟨[.vl (facesD n F), .vl (msD ms), .un, .un, .un, .vl (nD s)], by simp [turnM, l_msgs_2 h, -anys_comp, a], by simp⟩
  · exact big (by simpa using h.nle)
  · simp
theorem k_messages_are_right (h : Fine n ms) (e : En) : runM N_messages_are_right.length ps_messages_are_right.length m_messages_are_right [facesD n F, msD ms] e = some (.ok ⟨.bool true, false⟩ e) := runM_eq rfl rfl (by
  refine ret_of (e1 := [.vl (facesD n F), .vl (msD ms), .un, .un, .un, .un]) ?_
  show m_messages_are_right [.vl (facesD n F), .vl (msD ms), .un, .un, .un, .un] = _
  have a : allF [.list ((ms.zip ms.tail).map fun p => .bool (ltL p.1 p.2))] = some ⟨.bool true, false⟩ := by
    rw [alls_comp]
    exact congrArg (fun b => some (⟨.bool b, false⟩ : RV)) h.ups
  have b : allF [.list (ms.map fun _ => .bool true)] = some ⟨.bool true, false⟩ := by rw [alls_comp, all_true]
  have c : allF [.list ((List.range n).map fun _ => .bool true)] = some ⟨.bool true, false⟩ := by rw [alls_comp, all_true]
  have g1 : (1 : Int) ≤ ms.length := by have := h.one; omega
  have g2 : (ms.length : Int) ≤ 15 := by have := h.l15; omega
  rw [m_messages_are_right, run_then (e1 := [.vl (facesD n F), .vl (msD ms), .un, .un, .un, .un]) (by simp [isiD, isiF, PyData.isTuple, lenF, leD, g1, g2]),
    run_then (e1 := [.vl (facesD n F), .vl (msD ms), .un, .un, .un, .un]) (by simp [l_msgs_0 h, -alls_comp, b]), run_then (e1 := [.vl (facesD n F), .vl (msD ms), .un, .un, .un, .un]) (by simp [l_msgs_1 h, -alls_comp, a])]
  exact run_thenR (run_ret (by simp [l_msgs_3 h, -alls_comp, c])))
theorem k_check_faces (h : Small n F) (h1 : 1 ≤ n) (h4 : n ≤ 4) (e : En) : runM N_check_faces.length ps_check_faces.length m_check_faces [facesD n F] e = some (.ok ⟨.none, false⟩ e) := runM_eq rfl rfl (by
  show Ret m_check_faces [.vl (facesD n F)] _
  simp [m_check_faces, k_faces_are_right h h1 h4])
theorem k_check_both (hf : Small n F) (h : Fine n ms) (e : En) : runM N_check_both.length ps_check_both.length m_check_both [facesD n F, msD ms] e = some (.ok ⟨.none, false⟩ e) := runM_eq rfl rfl (by
  show Ret m_check_both [.vl (facesD n F), .vl (msD ms)] _
  simp [m_check_both, k_check_faces hf h.n1 h.n4, k_messages_are_right h])
theorem k_exact_way (hf : Small n F) (h : Fine n ms) (e : En) : runM N_exact_way.length ps_exact_way.length m_exact_way [facesD n F, msD ms] e = some (.ok ⟨wayD (exactT n F ms), false⟩ e) := runM_eq rfl rfl (by
  show Ret m_exact_way [.vl (facesD n F), .vl (msD ms)] _
  simp [m_exact_way, k_check_both hf h, k_exact_of h.toGood])
theorem k_refusal (hf : Small n F) (h : Fine n ms) (e : En) : runM N_refusal.length ps_refusal.length m_refusal [facesD n F, msD ms] e = some (.ok ⟨refD n F ms, false⟩ e) := runM_eq rfl rfl (by
  show Ret m_refusal [.vl (facesD n F), .vl (msD ms)] _
  simp [m_refusal, k_check_both hf h, k_refusal_of h.toGood h.n1])
end
end Lw

set_option Elab.async false
set_option linter.all false
set_option maxRecDepth 100000
set_option maxHeartbeats 4000000
namespace Lw
open PySem PySem.Spec L2 Ev
section
variable {n : Nat} {F : Nat → Nat → Int} {m : List Nat} {s : Nat} {ms : List (List Nat)}
theorem idx_faces {i j : Nat} (hi : i < n) (e : En) : idxD (facesD n F) (nD i) = some ⟨rowD n (F i), false⟩ := by
  rw [idx_tup, atI_rng hi]
  rfl
theorem idx_row {f : Nat → Int} {j : Nat} (hj : j < n) : idxD (rowD n f) (nD j) = some ⟨.int (f j), false⟩ := by
  rw [idx_tup, atI_rng hj]
  rfl
/-- a way as it is told: t tells, r readings -/
structure Way (n : Nat) (ms : List (List Nat)) (t r : List Nat) : Prop where
  tl : t.length = n
  rl : r.length = ms.length
  ta : ∀ a ∈ t, a < ms.length
  ra : ∀ s ∈ r, s < n
/-- no message is better than the own one -/
def Calm (F : Nat → Nat → Int) (ms : List (List Nat)) (t r : List Nat) : Prop :=
  ∀ s, s < t.length → ∀ p ∈ ms.zipIdx, s ∈ p.1 → ¬ F s (r.getD (t.getD s 0) 0) < F s (r.getD p.2 0)
theorem idx_mD {t : List Nat} {i : Nat} (hi : i < t.length) : idxD (mD t) (nD i) = some ⟨nD (t.getD i 0), false⟩ := by
  rw [idx_tup, atI_nat _ _ hi, List.getD_eq_getElem?_getD, List.getElem?_eq_getElem hi]
  rfl
theorem getD_lt {t : List Nat} {k i : Nat} (h : ∀ a ∈ t, a < k) (hi : i < t.length) : t.getD i 0 < k := by
  rw [List.getD_eq_getElem?_getD, List.getElem?_eq_getElem hi]
  exact h _ (List.getElem_mem hi)
theorem loop_gain0 {t r : List Nat} {o : Int} (w : Way n ms t r) (hs : s < n) (hc : ∀ p ∈ ms.zipIdx, s ∈ p.1 → ¬ o < F s (r.getD p.2 0)) (a b c d : Sl) : ∃ q : Sl × Sl, forGo b_gains_of_0 (ms.zipIdx.map fun p => PyData.tuple [nD p.2, mD p.1]) [.vl (facesD n F), .vl (msD ms), a, b, .vl (mD r), .ow false [], .vl (nD s), .vl (.int o), c, d] =
    some (.ok .nx [.vl (facesD n F), .vl (msD ms), a, b, .vl (mD r), .ow false [], .vl (nD s), .vl (.int o), q.1, q.2]) := by
  have := for_find (step := b_gains_of_0) (fun p : List Nat × Nat => PyData.tuple [nD p.2, mD p.1]) (fun q : Sl × Sl => [.vl (facesD n F), .vl (msD ms), a, b, .vl (mD r), .ow false [], .vl (nD s), .vl (.int o), q.1, q.2]) (fun _ => none) ms.zipIdx (c, d) (fun p hp q => by
    refine ⟨(.vl (nD p.2), .vl (mD p.1)), ?_⟩
    have hp2 : p.2 < r.length := by
      rw [w.rl]
      obtain ⟨x, i⟩ := p
      have := List.snd_lt_of_mem_zipIdx hp
      simpa using this
    have hr : r.getD p.2 0 < n := getD_lt w.ra hp2
    have i1 : idxD (facesD n F) (nD s) = some ⟨rowD n (F s), false⟩ := idx_faces (j := 0) hs []
    have i2 := idx_mD hp2
    by_cases z : s ∈ p.1
    · have hno := hc p hp z
      generalize r.getD p.2 0 = v at *
      simp [b_gains_of_0, bodyM, z, -idx_tup, i1, i2, idx_row hr, gtD, hno]
    · simp [b_gains_of_0, bodyM, z])
  obtain ⟨q, h⟩ := this
  refine ⟨q, ?_⟩
  have e : ms.zipIdx.findSome? (fun _ => (none : Option RV)) = none := by simp
  rw [e] at h
  exact h
theorem loop_gain1 {t r : List Nat} (h : Msgs n ms) (w : Way n ms t r) (hc : Calm F ms t r) (a : Sl) : ∃ q : (Sl × Sl) × Sl × Sl, forGo b_gains_of_1 ((List.range n).map nD) [.vl (facesD n F), .vl (msD ms), a, .vl (mD t), .vl (mD r), .ow false [], .un, .un, .un, .un] =
    some (.ok .nx [.vl (facesD n F), .vl (msD ms), a, .vl (mD t), .vl (mD r), .ow false [], q.1.1, q.1.2, q.2.1, q.2.2]) := by
  have := for_find (step := b_gains_of_1) nD (fun q : (Sl × Sl) × Sl × Sl => [.vl (facesD n F), .vl (msD ms), a, .vl (mD t), .vl (mD r), .ow false [], q.1.1, q.1.2, q.2.1, q.2.2]) (fun _ => none) (List.range n) ((.un, .un), .un, .un) (fun s hs q => by
    have hs := List.mem_range.mp hs
    have st : s < t.length := by rw [w.tl]; exact hs
    have i1 : idxD (facesD n F) (nD s) = some ⟨rowD n (F s), false⟩ := idx_faces (j := 0) hs []
    have i2 := idx_mD st
    have hta := getD_lt w.ta st
    have i3 := idx_mD (t := r) (i := t.getD s 0) (by rw [w.rl]; exact hta)
    have hrr : r.getD (t.getD s 0) 0 < n := getD_lt w.ra (by rw [w.rl]; exact hta)
    have hcs := hc s st
    generalize r.getD (t.getD s 0) 0 = v at *
    generalize t.getD s 0 = u at *
    obtain ⟨q2, l⟩ := loop_gain0 (F := F) (o := F s v) w hs hcs a (.vl (mD t)) q.2.1 q.2.2
    refine ⟨((.vl (nD s), .vl (.int (F s v))), q2), ?_⟩
    have s1 : setM 7 (op2 idxD (toO (op2 idxD (readO 0) (readO 6))) (toO (op2 idxD (readO 4) (toO (op2 idxD (readO 3) (readO 6)))))) [.vl (facesD n F), .vl (msD ms), a, .vl (mD t), .vl (mD r), .ow false [], .vl (nD s), q.1.2, q.2.1, q.2.2] = some (.ok .nx [.vl (facesD n F), .vl (msD ms), a, .vl (mD t), .vl (mD r), .ow false [], .vl (nD s), .vl (.int (F s v)), q.2.1, q.2.2]) := by
      simp [-idx_tup, i1, i2, i3, idx_row hrr]
    have f1 := run_for (mi := enumM (readV 1)) (e := [.vl (facesD n F), .vl (msD ms), a, .vl (mD t), .vl (mD r), .ow false [], .vl (nD s), .vl (.int (F s v)), q.2.1, q.2.2]) (by simp [enumM, seqM, itemsOf]) l
    have b0 : nameM 6 (nD s) [.vl (facesD n F), .vl (msD ms), a, .vl (mD t), .vl (mD r), .ow false [], q.1.1, q.1.2, q.2.1, q.2.2] = some (.ok () [.vl (facesD n F), .vl (msD ms), a, .vl (mD t), .vl (mD r), .ow false [], .vl (nD s), q.1.2, q.2.1, q.2.2]) := by simp
    show b_gains_of_1 (nD s) [.vl (facesD n F), .vl (msD ms), a, .vl (mD t), .vl (mD r), .ow false [], q.1.1, q.1.2, q.2.1, q.2.2] = _
    rw [b_gains_of_1, bodyM, run_bind, b0, bndR_ok, run_then s1, run_then f1]
    rfl)
  obtain ⟨q, l⟩ := this
  refine ⟨q, ?_⟩
  have e : (List.range n).findSome? (fun _ => (none : Option RV)) = none := by simp
  rw [e] at l
  exact l
theorem k_gains_of {t r : List Nat} (h : Msgs n ms) (w : Way n ms t r) (hc : Calm F ms t r) (e : En) : runM N_gains_of.length ps_gains_of.length m_gains_of [facesD n F, msD ms, .tuple [mD t, mD r]] e = some (.ok ⟨.list [], true⟩ e) := runM_eq rfl rfl (by
  obtain ⟨q, l⟩ := loop_gain1 (F := F) h w hc (.vl (.tuple [mD t, mD r]))
  have f1 := run_for (mi := rng1M (toO (op1L lenF (readO 0)))) (e := [.vl (facesD n F), .vl (msD ms), .vl (.tuple [mD t, mD r]), .vl (mD t), .vl (mD r), .ow false [], .un, .un, .un, .un]) (by simp [rng1M, lenF, rngD_nat h.nle]) l
  refine ret_of (e1 := [.vl (facesD n F), .vl (msD ms), .vl (.tuple [mD t, mD r]), .vl (mD t), .vl (mD r), .un, q.1.1, q.1.2, q.2.1, q.2.2]) ?_
  show m_gains_of [.vl (facesD n F), .vl (msD ms), .vl (.tuple [mD t, mD r]), .un, .un, .un, .un, .un, .un, .un] = _
  rw [m_gains_of, run_then (e1 := [.vl (facesD n F), .vl (msD ms), .vl (.tuple [mD t, mD r]), .vl (mD t), .vl (mD r), .un, .un, .un, .un, .un]) (by simp), run_then (e1 := [.vl (facesD n F), .vl (msD ms), .vl (.tuple [mD t, mD r]), .vl (mD t), .vl (mD r), .ow false [], .un, .un, .un, .un]) (by simp), run_then f1]
  exact run_thenR (run_ret (by simp)))
end
end Lw

set_option Elab.async false
set_option linter.all false
set_option maxRecDepth 100000
set_option maxHeartbeats 4000000
namespace Lw
open PySem PySem.Spec L2 Ev
section
variable {n : Nat} {F : Nat → Nat → Int} {m : List Nat} {s : Nat} {ms : List (List Nat)}
structure WayOk (n : Nat) (ms : List (List Nat)) (t r : List Nat) : Prop extends Way n ms t r where
  inT : ∀ p ∈ t.zipIdx, p.2 ∈ ms.getD p.1 []
  inR : ∀ p ∈ r.zip ms, p.1 ∈ p.2
theorem idx_msD {i : Nat} (hi : i < ms.length) : idxD (msD ms) (nD i) = some ⟨mD (ms.getD i []), false⟩ := by
  rw [idx_tup, atI_nat _ _ hi, List.getD_eq_getElem?_getD, List.getElem?_eq_getElem hi]
  rfl
theorem alls_true {α : Type} (l : List α) : allF [.list (l.map fun _ => PyData.bool true)] = some ⟨.bool true, false⟩ := by rw [alls_comp, all_true]
variable {t r : List Nat}
abbrev wayV (t r : List Nat) : PyData := .tuple ([t, r].map mD)
theorem l_way_0 (x y a b : Sl) : c_way_is_right_0 [x, y, .vl (wayV t r), a, b, .un, .un, .un, .un] = some (.ok ⟨.list ([t, r].map fun _ => .bool true), true⟩ [x, y, .vl (wayV t r), a, b, .un, .un, .un, .un]) := by
  rw [c_way_is_right_0, lc_t mD (fun b : Bool => PyData.bool b) (fun _ => some true) (xs := [t, r])]
  · simp
  · simp [seqM, itemsOf]
  · intro m hm
    exact ⟨[x, y, .vl (wayV t r), a, b, .vl (mD m), .un, .un, .un], by simp [turnM, isiD, isiF, PyData.isTuple], by simp⟩
  · exact (by decide : 2 ≤ most)
  · simp
theorem l_way_1 (w : Way n ms t r) (h : Msgs n ms) (x z b : Sl) : c_way_is_right_1 [x, .vl (msD ms), z, .vl (mD t), b, .un, .un, .un, .un] = some (.ok ⟨.list (t.map fun _ => .bool true), true⟩ [x, .vl (msD ms), z, .vl (mD t), b, .un, .un, .un, .un]) := by
  rw [c_way_is_right_1, lc_t nD (fun b : Bool => PyData.bool b) (fun _ => some true) (xs := t)]
  · simp
  · simp [seqM, itemsOf]
  · intro m hm
    exact ⟨[x, .vl (msD ms), z, .vl (mD t), b, .un, .vl (nD m), .un, .un], by simp [turnM, lenF, w.ta m hm], by simp⟩
  · exact big (by rw [w.tl]; exact h.nle)
  · simp
theorem l_way_2 (w : Way n ms t r) (h : Msgs n ms) (y z a : Sl) : c_way_is_right_2 [.vl (facesD n F), y, z, a, .vl (mD r), .un, .un, .un, .un] = some (.ok ⟨.list (r.map fun _ => .bool true), true⟩ [.vl (facesD n F), y, z, a, .vl (mD r), .un, .un, .un, .un]) := by
  rw [c_way_is_right_2, lc_t nD (fun b : Bool => PyData.bool b) (fun _ => some true) (xs := r)]
  · simp
  · simp [seqM, itemsOf]
  · intro m hm
    exact ⟨[.vl (facesD n F), y, z, a, .vl (mD r), .un, .un, .vl (nD m), .un], by simp [turnM, lenF, w.ra m hm], by simp⟩
  · exact big (by rw [w.rl]; exact h.len)
  · simp
theorem l_way_3 (w : WayOk n ms t r) (h : Msgs n ms) (x z b : Sl) : c_way_is_right_3 [x, .vl (msD ms), z, .vl (mD t), b, .un, .un, .un, .un] = some (.ok ⟨.list (t.zipIdx.map fun _ => .bool true), true⟩ [x, .vl (msD ms), z, .vl (mD t), b, .un, .un, .un, .un]) := by
  rw [c_way_is_right_3, lc_t (fun p : Nat × Nat => PyData.tuple [nD p.2, nD p.1]) (fun b : Bool => PyData.bool b) (fun _ => some true) (xs := t.zipIdx)]
  · simp
  · simp [enumM, seqM, itemsOf]
  · intro p hp
    have h1 : p.1 < ms.length := w.ta _ (by
      obtain ⟨a, i⟩ := p
      exact List.fst_mem_of_mem_zipIdx hp)
    have h2 := w.inT p hp
    have h3 := idx_msD h1
    generalize ms.getD p.1 [] = m at *
    exact ⟨[x, .vl (msD ms), z, .vl (mD t), b, .un, .vl (nD p.1), .vl (nD p.2), .un], by simp [turnM, -idx_tup, h3, h2], by simp⟩
  · exact big (by rw [List.length_zipIdx, w.tl]; exact h.nle)
  · simp
theorem l_way_4 (w : WayOk n ms t r) (h : Msgs n ms) (x z a : Sl) : c_way_is_right_4 [x, .vl (msD ms), z, a, .vl (mD r), .un, .un, .un, .un] = some (.ok ⟨.list ((r.zip ms).map fun _ => .bool true), true⟩ [x, .vl (msD ms), z, a, .vl (mD r), .un, .un, .un, .un]) := by
  rw [c_way_is_right_4, lc_t (fun p : Nat × List Nat => PyData.tuple [nD p.1, mD p.2]) (fun b : Bool => PyData.bool b) (fun _ => some true) (xs := r.zip ms)]
  · simp
  · simp [zipM, itemsOf, List.zip_eq_zipWith, List.map_zipWith]
  · intro p hp
    exact ⟨[x, .vl (msD ms), z, a, .vl (mD r), .un, .un, .vl (nD p.1), .vl (mD p.2)], by simp [turnM, w.inR p hp], by simp⟩
  · exact zip_len (by rw [w.rl]; exact h.len)
  · simp
theorem k_way_is_right (w : WayOk n ms t r) (h : Msgs n ms) (e : En) : runM N_way_is_right.length ps_way_is_right.length m_way_is_right [facesD n F, msD ms, wayV t r] e = some (.ok ⟨.bool true, false⟩ e) := runM_eq rfl rfl (by
  refine ret_of (e1 := [.vl (facesD n F), .vl (msD ms), .vl (wayV t r), .vl (mD t), .vl (mD r), .un, .un, .un, .un]) ?_
  show m_way_is_right [.vl (facesD n F), .vl (msD ms), .vl (wayV t r), .un, .un, .un, .un, .un, .un] = _
  have s1 : ifM (Ev.orM (Ev.notM (asB (op1 (isiD "tuple") (readO 2)))) (Ev.orM (asB (op2 (cmpD .ne) (toO (op1L lenF (readO 2))) (toO (pure ⟨.int 2, false⟩)))) (Ev.notM (asB (op1L allF (toO (c_way_is_right_0))))))) (thenM (retM (pure ⟨.bool false, false⟩)) (pure .nx)) (pure .nx) [.vl (facesD n F), .vl (msD ms), .vl (wayV t r), .un, .un, .un, .un, .un, .un] = some (.ok .nx [.vl (facesD n F), .vl (msD ms), .vl (wayV t r), .un, .un, .un, .un, .un, .un]) := by
    have l := l_way_0 (t := t) (r := r) (.vl (facesD n F)) (.vl (msD ms)) .un .un
    have e1 : allF [.list ([t, r].map fun _ => PyData.bool true)] = some ⟨.bool true, false⟩ := alls_true _
    simp only [List.map_cons, List.map_nil] at l e1 ⊢
    simp [isiD, isiF, PyData.isTuple, lenF, l, e1]
  have s2 : bindM (readV 2) (tupT 2 (consM (nameM 3) (consM (nameM 4) (nilM)))) [.vl (facesD n F), .vl (msD ms), .vl (wayV t r), .un, .un, .un, .un, .un, .un] = some (.ok .nx [.vl (facesD n F), .vl (msD ms), .vl (wayV t r), .vl (mD t), .vl (mD r), .un, .un, .un, .un]) := by simp
  rw [m_way_is_right, run_then s1, run_then s2,
    run_then (e1 := [.vl (facesD n F), .vl (msD ms), .vl (wayV t r), .vl (mD t), .vl (mD r), .un, .un, .un, .un]) (by simp [lenF, w.tl, w.rl]),
    run_then (e1 := [.vl (facesD n F), .vl (msD ms), .vl (wayV t r), .vl (mD t), .vl (mD r), .un, .un, .un, .un]) (by simp [l_way_1 w.toWay h, -alls_comp, alls_true]),
    run_then (e1 := [.vl (facesD n F), .vl (msD ms), .vl (wayV t r), .vl (mD t), .vl (mD r), .un, .un, .un, .un]) (by simp [l_way_2 w.toWay h, -alls_comp, alls_true]),
    run_then (e1 := [.vl (facesD n F), .vl (msD ms), .vl (wayV t r), .vl (mD t), .vl (mD r), .un, .un, .un, .un]) (by simp [l_way_3 w h, -alls_comp, alls_true])]
  exact run_thenR (run_ret (by simp [l_way_4 w h, -alls_comp, alls_true])))
end
end Lw

set_option Elab.async false
set_option linter.all false
set_option maxRecDepth 100000
set_option maxHeartbeats 4000000
namespace Lw
open PySem PySem.Spec L2 Ev
section
variable {n : Nat} {F : Nat → Nat → Int} {m : List Nat} {s : Nat} {ms : List (List Nat)} {t r : List Nat}
theorem cnt_nodup (h : t.Nodup) : cnt t = t.length := by
  have h1 : (t.map Int.ofNat).Nodup := List.pairwise_map.mpr (List.Pairwise.imp (fun hne z => hne (Int.ofNat.inj z)) h)
  have p : (distL (t.map Int.ofNat)).Perm (t.map Int.ofNat) := (List.perm_ext_iff_of_nodup (dist_nodup _) h1).mpr fun k => mem_dist
  unfold cnt
  rw [p.length_eq, List.length_map]
/-- a told way is right -/
structure WayFine (n : Nat) (F : Nat → Nat → Int) (ms : List (List Nat)) (t r : List Nat) : Prop extends WayOk n ms t r where
  nd : t.Nodup
  back : ∀ p ∈ t.zipIdx, r.getD p.1 0 = p.2
  calm : Calm F ms t r
theorem l_is_exact_0 (w : WayFine n F ms t r) (h : Msgs n ms) (x y z : Sl) : c_is_exact_0 [x, y, z, .vl (mD t), .vl (mD r), .un, .un] = some (.ok ⟨.list (t.zipIdx.map fun _ => .bool true), true⟩ [x, y, z, .vl (mD t), .vl (mD r), .un, .un]) := by
  rw [c_is_exact_0, lc_t (fun p : Nat × Nat => PyData.tuple [nD p.2, nD p.1]) (fun b : Bool => PyData.bool b) (fun _ => some true) (xs := t.zipIdx)]
  · simp
  · simp [enumM, seqM, itemsOf]
  · intro p hp
    have h1 : p.1 < ms.length := w.ta _ (by
      obtain ⟨a, i⟩ := p
      exact List.fst_mem_of_mem_zipIdx hp)
    have h2 := w.back p hp
    have h3 := idx_mD (t := r) (i := p.1) (by rw [w.rl]; exact h1)
    rw [h2] at h3
    exact ⟨[x, y, z, .vl (mD t), .vl (mD r), .vl (nD p.2), .vl (nD p.1)], by simp [turnM, -idx_tup, h3], by simp⟩
  · exact big (by rw [List.length_zipIdx, w.tl]; exact h.nle)
  · simp
theorem lenSet_mD (h : t.length ≤ 1000) : lenSetD (mD t) = some ⟨nD (cnt t), false⟩ := by
  simp [lenSetD, Ev.numsOf, itemsOf, h, cnt]
theorem k_is_exact (hf : Small n F) (h : Fine n ms) (w : WayFine n F ms t r) (e : En) : runM N_is_exact.length ps_is_exact.length m_is_exact [facesD n F, msD ms, wayV t r] e = some (.ok ⟨.bool true, false⟩ e) := runM_eq rfl rfl (by
  refine ret_of (e1 := [.vl (facesD n F), .vl (msD ms), .vl (wayV t r), .vl (mD t), .vl (mD r), .un, .un]) ?_
  show m_is_exact [.vl (facesD n F), .vl (msD ms), .vl (wayV t r), .un, .un, .un, .un] = _
  have kg := k_gains_of (F := F) h.toMsgs w.toWay w.calm
  have kw := k_way_is_right (F := F) w.toWayOk h.toMsgs
  have ek : eqD (.list []) (.list []) = some true := by rfl
  have s2 : bindM (readV 2) (tupT 2 (consM (nameM 3) (consM (nameM 4) (nilM)))) [.vl (facesD n F), .vl (msD ms), .vl (wayV t r), .un, .un, .un, .un] = some (.ok .nx [.vl (facesD n F), .vl (msD ms), .vl (wayV t r), .vl (mD t), .vl (mD r), .un, .un]) := by simp
  have hl : t.length ≤ 1000 := by have := w.tl; have := h.nle; omega
  rw [m_is_exact, run_then (e1 := [.vl (facesD n F), .vl (msD ms), .vl (wayV t r), .un, .un, .un, .un]) (by simp [k_check_both hf h]),
    run_then (e1 := [.vl (facesD n F), .vl (msD ms), .vl (wayV t r), .un, .un, .un, .un]) (by
      simp only [wayV, List.map_cons, List.map_nil] at kw ⊢
      simp [kw, kg, ek]), run_then s2]
  exact run_thenR (run_ret (by simp [lenSet_mD hl, cnt_nodup w.nd, lenF, l_is_exact_0 w h.toMsgs, -alls_comp, alls_true])))
theorem k_way_none (e : En) (a b : PyData) : runM N_way_is_right.length ps_way_is_right.length m_way_is_right [a, b, .none] e = some (.ok ⟨.bool false, false⟩ e) := runM_eq rfl rfl (by
  refine ret_of (e1 := [.vl a, .vl b, .vl .none, .un, .un, .un, .un, .un, .un]) ?_
  show m_way_is_right [.vl a, .vl b, .vl .none, .un, .un, .un, .un, .un, .un] = _
  rw [m_way_is_right]
  exact run_thenR (by simp [isiD, isiF, PyData.isTuple]))
theorem k_is_exact_none (hf : Small n F) (h : Fine n ms) (e : En) : runM N_is_exact.length ps_is_exact.length m_is_exact [facesD n F, msD ms, .none] e = some (.ok ⟨.bool false, false⟩ e) := runM_eq rfl rfl (by
  refine ret_of (e1 := [.vl (facesD n F), .vl (msD ms), .vl .none, .un, .un, .un, .un]) ?_
  show m_is_exact [.vl (facesD n F), .vl (msD ms), .vl .none, .un, .un, .un, .un] = _
  rw [m_is_exact, run_then (e1 := [.vl (facesD n F), .vl (msD ms), .vl .none, .un, .un, .un, .un]) (by simp [k_check_both hf h])]
  exact run_thenR (by simp [k_way_none]))
theorem k_is_refusal_none (hf : Small n F) (h : Fine n ms) (e : En) : runM N_is_refusal.length ps_is_refusal.length m_is_refusal [facesD n F, msD ms, .none] e = some (.ok ⟨.bool false, false⟩ e) := runM_eq rfl rfl (by
  refine ret_of (e1 := [.vl (facesD n F), .vl (msD ms), .vl .none]) ?_
  show m_is_refusal [.vl (facesD n F), .vl (msD ms), .vl .none] = _
  rw [m_is_refusal, run_then (e1 := [.vl (facesD n F), .vl (msD ms), .vl .none]) (by simp [k_check_both hf h])]
  exact run_thenR (by simp [isiD, isiF, PyData.isTuple]))
end
end Lw

set_option Elab.async false
set_option linter.all false
set_option maxRecDepth 100000
set_option maxHeartbeats 4000000
namespace Lw
open PySem PySem.Spec L2 Ev
section
variable {n : Nat} {F : Nat → Nat → Int} {m : List Nat} {s : Nat} {ms : List (List Nat)} {v : List Nat}
theorem eq_strs : eqD (.str "barred") (.str "barred") = some true ∧ eqD (.str "short") (.str "barred") = some false ∧ eqD (.str "short") (.str "short") = some true := by
  refine ⟨?_, ?_, ?_⟩ <;> decide +kernel
theorem l_env_0 (h : Msg n m) (hv : ∀ o ∈ v, o < n ∧ o ∈ m) (hl : v.length ≤ 100) : c_enviers_fit_0 [.vl (facesD n F), .vl (mD m), .vl (mD v), .un, .un] = some (.ok ⟨.list (v.map fun _ => .bool true), true⟩ [.vl (facesD n F), .vl (mD m), .vl (mD v), .un, .un]) := by
  rw [c_enviers_fit_0, lc_t nD (fun b : Bool => PyData.bool b) (fun _ => some true) (xs := v)]
  · simp
  · simp [seqM, itemsOf]
  · intro o ho
    obtain ⟨h1, h2⟩ := hv o ho
    exact ⟨[.vl (facesD n F), .vl (mD m), .vl (mD v), .vl (nD o), .un], by simp [turnM, lenF, h1, h2], by simp⟩
  · exact big hl
  · simp
theorem l_env_1 (h : Msg n m) (hv : ∀ p ∈ v.zip m, p.1 < n ∧ p.2 < n ∧ F p.1 p.1 < F p.1 p.2) (hl : v.length ≤ 100) : c_enviers_fit_1 [.vl (facesD n F), .vl (mD m), .vl (mD v), .un, .un] = some (.ok ⟨.list ((v.zip m).map fun _ => .bool true), true⟩ [.vl (facesD n F), .vl (mD m), .vl (mD v), .un, .un]) := by
  rw [c_enviers_fit_1, lc_t (fun p : Nat × Nat => PyData.tuple [nD p.1, nD p.2]) (fun b : Bool => PyData.bool b) (fun _ => some true) (xs := v.zip m)]
  · simp
  · simp [zipM, itemsOf, List.zip_eq_zipWith, List.map_zipWith]
  · intro p hp
    obtain ⟨h1, h2, h3⟩ := hv p hp
    exact ⟨[.vl (facesD n F), .vl (mD m), .vl (mD v), .vl (nD p.1), .vl (nD p.2)], by simp [turnM, k_does_envy h1 h2, h3], by simp⟩
  · exact zip_len hl
  · simp
theorem envs_mem (hf : fit F m = []) (hs : s ∈ m) : (envs1 F m s).headD 0 ∈ envs1 F m s := by
  cases q : envs1 F m s with
  | nil => exact absurd q (envs_ne hf hs)
  | cons x xs => simp
theorem k_enviers_fit (h : Msg n m) (hf : fit F m = []) (e : En) : runM N_enviers_fit.length ps_enviers_fit.length m_enviers_fit [facesD n F, mD m, mD (envs F m)] e = some (.ok ⟨.bool true, false⟩ e) := runM_eq rfl rfl (by
  have hl : (envs F m).length = m.length := by simp [envs]
  have h0 : ∀ o ∈ envs F m, o < n ∧ o ∈ m := fun o ho => by
    obtain ⟨s, hs, rfl⟩ := List.mem_map.mp ho
    have := (List.mem_filter.mp (envs_mem hf hs)).1
    exact ⟨h.lt _ this, this⟩
  have h1 : ∀ p ∈ (envs F m).zip m, p.1 < n ∧ p.2 < n ∧ F p.1 p.1 < F p.1 p.2 := fun p hp => by
    have e : (envs F m).zip m = m.map fun s => ((envs1 F m s).headD 0, s) := by
      unfold envs
      rw [List.zip_map_left]
      have : m.zip m = m.map fun s => (s, s) := by
        clear hp hl h0 h hf
        induction m with
        | nil => rfl
        | cons x m ih => simp [ih]
      rw [this, List.map_map]
      rfl
    rw [e] at hp
    obtain ⟨s, hs, rfl⟩ := List.mem_map.mp hp
    obtain ⟨k1, k2⟩ := List.mem_filter.mp (envs_mem hf hs)
    exact ⟨h.lt _ k1, h.lt _ hs, by simpa using k2⟩
  refine ret_of (e1 := [.vl (facesD n F), .vl (mD m), .vl (mD (envs F m)), .un, .un]) ?_
  show m_enviers_fit [.vl (facesD n F), .vl (mD m), .vl (mD (envs F m)), .un, .un] = _
  have l0 := l_env_0 (F := F) h h0 (by rw [hl]; exact h.len)
  have l1 := l_env_1 h h1 (by rw [hl]; exact h.len)
  generalize envs F m = w at *
  rw [m_enviers_fit, run_then (e1 := [.vl (facesD n F), .vl (mD m), .vl (mD w), .un, .un]) (by simp [isiD, isiF, PyData.isTuple, lenF, hl]), run_then (e1 := [.vl (facesD n F), .vl (mD m), .vl (mD w), .un, .un]) (by simp [l0, -alls_comp, alls_true])]
  exact run_thenR (run_ret (by simp [l1, -alls_comp, alls_true])))
theorem k_is_refusal_bar (hf : Small n F) (h : Fine n ms) {i : Nat} (hi : i < ms.length) (hb : fit F (ms.getD i []) = []) (e : En) : runM N_is_refusal.length ps_is_refusal.length m_is_refusal [facesD n F, msD ms, barD F (ms.getD i []) i] e = some (.ok ⟨.bool true, false⟩ e) := runM_eq rfl rfl (by
  have hm : ms.getD i [] ∈ ms := by
    rw [List.getD_eq_getElem?_getD, List.getElem?_eq_getElem hi]
    exact List.getElem_mem hi
  have kf := k_enviers_fit (h.ok _ hm) hb
  have ki := idx_msD hi
  generalize ms.getD i [] = m at *
  refine ret_of (e1 := [.vl (facesD n F), .vl (msD ms), .vl (barD F m i)]) ?_
  show m_is_refusal [.vl (facesD n F), .vl (msD ms), .vl (barD F m i)] = _
  obtain ⟨q1, q2, q3⟩ := eq_strs
  have a0 : idxD (barD F m i) (.int 0) = some ⟨.str "barred", false⟩ := rfl
  have a1 : idxD (barD F m i) (.int 1) = some ⟨nD i, false⟩ := rfl
  have a2 : idxD (barD F m i) (.int 2) = some ⟨mD (envs F m), false⟩ := rfl
  have l3 : lenF [barD F m i] = some ⟨.int 3, false⟩ := rfl
  have t3 : (barD F m i).isTuple = true := rfl
  generalize barD F m i = v at *
  rw [m_is_refusal, run_then (e1 := [.vl (facesD n F), .vl (msD ms), .vl v]) (by simp [k_check_both hf h]),
    run_then (e1 := [.vl (facesD n F), .vl (msD ms), .vl v]) (by simp [isiD, isiF, t3, l3, a0, ltD, PyData.isStr])]
  have lm : lenF [msD ms] = some ⟨nD ms.length, false⟩ := by simp [lenF]
  exact run_thenR (by simp [a0, a1, a2, l3, q1, lm, hi, -idx_tup, ki, kf]))
theorem k_is_refusal_sho (hf : Small n F) (h : Fine n ms) {t : List Nat} (ht : t ∈ bySize n) (ha : asc t = true) (h0 : t ≠ []) (hs : shortB F ms t = true) (e : En) : runM N_is_refusal.length ps_is_refusal.length m_is_refusal [facesD n F, msD ms, shoD t] e = some (.ok ⟨.bool true, false⟩ e) := runM_eq rfl rfl (by
  obtain ⟨z1, z2⟩ := size_lt h.n1 h.n4 t ht
  have ks := k_are_short (F := F) h.toGood z1 z2
  have kr := k_set_is_right (n := n) (m := t) ⟨z1, by omega⟩ h0 ha
  refine ret_of (e1 := [.vl (facesD n F), .vl (msD ms), .vl (shoD t)]) ?_
  show m_is_refusal [.vl (facesD n F), .vl (msD ms), .vl (shoD t)] = _
  obtain ⟨q1, q2, q3⟩ := eq_strs
  have a0 : idxD (shoD t) (.int 0) = some ⟨.str "short", false⟩ := rfl
  have a1 : idxD (shoD t) (.int 1) = some ⟨mD t, false⟩ := rfl
  have l3 : lenF [shoD t] = some ⟨.int 2, false⟩ := rfl
  have t3 : (shoD t).isTuple = true := rfl
  generalize shoD t = v at *
  have lm : lenF [facesD n F] = some ⟨nD n, false⟩ := by simp [lenF]
  rw [m_is_refusal, run_then (e1 := [.vl (facesD n F), .vl (msD ms), .vl v]) (by simp [k_check_both hf h]),
    run_then (e1 := [.vl (facesD n F), .vl (msD ms), .vl v]) (by simp [isiD, isiF, t3, l3, a0, ltD, PyData.isStr]),
    run_then (e1 := [.vl (facesD n F), .vl (msD ms), .vl v]) (by simp [a0, q2])]
  exact run_thenR (by simp [a0, a1, l3, q3, lm, kr, k_own_of h.toMsgs, ks, hs]))
end
end Lw

set_option Elab.async false
set_option linter.all false
set_option maxRecDepth 100000
set_option maxHeartbeats 4000000
namespace Lw
open PySem PySem.Spec L2 Ev
section
variable {n : Nat} {F : Nat → Nat → Int} {m : List Nat} {s : Nat} {ms : List (List Nat)}
theorem l__law_fit_0 (h : Msg n m) (hs : s < n) : c__law_fit_0 [.vl (facesD n F), .vl (mD m), .vl (nD s), .un] = some (.ok ⟨.list (m.map fun o => .bool (decide (F o o < F o s))), true⟩ [.vl (facesD n F), .vl (mD m), .vl (nD s), .un]) := by
  rw [c__law_fit_0, lc_t nD PyData.bool (fun o => some (decide (F o o < F o s))) (xs := m)]
  · simp
  · simp [seqM, itemsOf]
  · intro o ho
    have i1 : idxD (facesD n F) (nD o) = some ⟨rowD n (F o), false⟩ := idx_faces (j := 0) (h.lt o ho) []
    exact ⟨[.vl (facesD n F), .vl (mD m), .vl (nD s), .vl (nD o)], by simp [turnM, -idx_tup, i1, idx_row hs, idx_row (h.lt o ho), gtD], by simp⟩
  · exact big h.len
  · simp
theorem l__law_fit_1 (h : Msg n m) : c__law_fit_1 [.vl (facesD n F), .vl (mD m), .un, .un] = some (.ok ⟨lnD (fit F m), true⟩ [.vl (facesD n F), .vl (mD m), .un, .un]) := by
  rw [c__law_fit_1, lc_t nD nD (fun s => if (!(m.any fun o => decide (F o o < F o s))) = true then some s else none) (xs := m)]
  · rw [filterMap_if, List.map_id']; exact congrArg (fun z => some (Rs.ok (⟨lnD z, true⟩ : RV) _)) (by unfold fit; exact List.filter_congr fun x _ => by rw [Bool.decide_eq_true])
  · simp [seqM, itemsOf]
  · intro s hs
    exact ⟨[.vl (facesD n F), .vl (mD m), .vl (nD s), .un], by simp [turnM, l__law_fit_0 h (h.lt s hs), anyF], by simp⟩
  · exact big h.len
  · simp
theorem k__law_fit (h : Msg n m) (e : En) : runM N__law_fit.length ps__law_fit.length m__law_fit [facesD n F, mD m] e = some (.ok ⟨lnD (fit F m), true⟩ e) := runM_eq rfl rfl (by
  refine ret_of (e1 := [.vl (facesD n F), .vl (mD m), .un, .un]) ?_
  show m__law_fit [.vl (facesD n F), .vl (mD m), .un, .un] = _
  rw [m__law_fit]
  exact run_thenR (run_ret (l__law_fit_1 h)))
theorem l__law_own_0 (h : Msgs n ms) : c__law_own_0 [.vl (facesD n F), .vl (msD ms), .un, .un, .un, .un] = some (.ok ⟨llD (ms.map (fit F)), true⟩ [.vl (facesD n F), .vl (msD ms), .un, .un, .un, .un]) := by
  rw [c__law_own_0, lc_t mD lnD (fun m => some (fit F m)) (xs := ms)]
  · simp
  · simp [seqM, itemsOf]
  · intro m hm
    exact ⟨[.vl (facesD n F), .vl (msD ms), .un, .vl (mD m), .un, .un], by simp [turnM, k__law_fit (h.ok m hm)], by simp⟩
  · exact big h.len
  · simp
theorem l__law_own_1 (h : Msgs n ms) (s : Nat) : c__law_own_1 [.vl (facesD n F), .vl (msD ms), .vl (llD (ms.map (fit F))), .un, .vl (nD s), .un] = some (.ok ⟨lnD (ownS F ms s), true⟩ [.vl (facesD n F), .vl (msD ms), .vl (llD (ms.map (fit F))), .un, .vl (nD s), .un]) := by
  rw [c__law_own_1, lc_t (fun p : List Nat × Nat => PyData.tuple [nD p.2, lnD p.1]) nD (fun p => if s ∈ p.1 then some p.2 else none) (xs := (ms.map (fit F)).zipIdx)]
  · simp [ownS, List.zipIdx_map, List.filter_map, Function.comp_def]
  · simp [enumM, seqM, itemsOf, List.zipIdx_map]
  · intro p hp
    exact ⟨[.vl (facesD n F), .vl (msD ms), .vl (llD (ms.map (fit F))), .vl (lnD p.1), .vl (nD s), .vl (nD p.2)], by simp [turnM], by simp⟩
  · exact big (by simpa using h.len)
  · simp
theorem l__law_own_2 (h : Msgs n ms) : c__law_own_2 [.vl (facesD n F), .vl (msD ms), .vl (llD (ms.map (fit F))), .un, .un, .un] = some (.ok ⟨llD (ownL n F ms), true⟩ [.vl (facesD n F), .vl (msD ms), .vl (llD (ms.map (fit F))), .un, .un, .un]) := by
  rw [c__law_own_2, lc_t nD lnD (fun s => some (ownS F ms s)) (xs := List.range n)]
  · simp [ownL]
  · simp [rng1M, lenF, rngD_nat h.nle]
  · intro s hs
    exact ⟨[.vl (facesD n F), .vl (msD ms), .vl (llD (ms.map (fit F))), .un, .vl (nD s), .un], by simp [turnM, l__law_own_1 h], by simp⟩
  · exact big (by simpa using h.nle)
  · simp
theorem k__law_own (h : Msgs n ms) (e : En) : runM N__law_own.length ps__law_own.length m__law_own [facesD n F, msD ms] e = some (.ok ⟨llD (ownL n F ms), true⟩ e) := runM_eq rfl rfl (by
  refine ret_of (e1 := [.vl (facesD n F), .vl (msD ms), .vl (llD (ms.map (fit F))), .un, .un, .un]) ?_
  show m__law_own [.vl (facesD n F), .vl (msD ms), .un, .un, .un, .un] = _
  rw [m__law_own, run_then (e1 := [.vl (facesD n F), .vl (msD ms), .vl (llD (ms.map (fit F))), .un, .un, .un]) (by simp [l__law_own_0 h])]
  exact run_thenR (run_ret (l__law_own_2 h)))
/-! the first found row of unlike choices -/
def dfs : List (List Nat) → List Nat → Option (List Nat)
  | [], _ => some []
  | o :: own, used => o.findSome? fun a => if a ∈ used then none else (dfs own (used ++ [a])).map (a :: ·)
theorem slc_tailL {α : Type} (f : α → PyData) (m : List α) : slcD (some 1) none (.list (m.map f)) = some ⟨.list ((m.drop 1).map f), true⟩ := by
  show some (⟨.list (cutD (m.map f) (some 1) none), true⟩ : RV) = _
  rw [cut_tail]
theorem addD_lnD {a : List Nat} {x : Nat} (h : a.length ≤ 100) : addD (lnD a) (.list [nD x]) = some ⟨lnD (a ++ [x]), true⟩ := by
  have g : a.length + 1 ≤ most := by unfold most; omega
  simp [addD, g]
theorem eqD_ll (own : List (List Nat)) : eqD (llD own) (.list []) = some (decide (own = [])) := by
  have s : SeqAt.shaped (llD own) = true := by
    unfold SeqAt.shaped
    rw [Bool.and_eq_true]
    refine ⟨canLay_map lnD (fun m => canLay_map nD (fun _ => rfl) m) own, decide_eq_true ?_⟩
    have := depth_map lnD 1 depth_lnD own
    simp only [PyData.depth]
    omega
  have : PyData.eqv (llD own) (.list []) = decide (own = []) := by cases own <;> rfl
  simp [eqD, s, this]
end
end Lw

set_option Elab.async false
set_option linter.all false
set_option maxRecDepth 100000
set_option maxHeartbeats 4000000
namespace Lw
open PySem PySem.Spec L2 Ev
/-- a run with a lent list -/
def RetP (m : M Fl) (e : En) (r : RV) (ds : List PyData) : Prop := ∃ e2, m e = some (.ok (.rt r) e2) ∧ lentD e2 = some ds
theorem runPM_eq {i n np : Nat} {m : M Fl} {ds ds0 ds1 : List PyData} {b : Bool} {r : RV} {e env : En} (hi : e[i]? = some (.ow b ds0)) (hl : ds.length + 1 = np) (he : .ow true ds0 :: (ds.map Sl.vl ++ List.replicate (n - np) Sl.un) = env) (h : RetP m env r ds1) : runPM i n np m ds e = some (.ok r (e.set i (.ow b ds1))) := by
  obtain ⟨e2, h1, h2⟩ := h
  subst he
  unfold runPM
  rw [hi]
  simp only [hl, if_true, h1, h2, Option.map_some]
/-- the pot: two numbers -/
abbrev potL (a b : Int) : List PyData := [.int a, .int b]
theorem pot0 (a b : Int) : idxD (.list (potL a b)) (.int 0) = some ⟨.int a, false⟩ := rfl
theorem pot1 (a b : Int) : idxD (.list (potL a b)) (.int 1) = some ⟨.int b, false⟩ := rfl
theorem set0 (a b c : Int) : ((ixN (potL a b).length 0).map fun n => (potL a b).set n (.int c)) = some (potL c b) := rfl
theorem set1 (a b c : Int) : ((ixN (potL a b).length 1).map fun n => (potL a b).set n (.int c)) = some (potL a c) := rfl
theorem mod_nat {x : Int} {k : Nat} (hk : 1 ≤ k) : ∃ v : Nat, v < k ∧ modD (.int x) (nD k) = some ⟨nD v, false⟩ := by
  have k0 : (k : Int) ≠ 0 := by omega
  have h1 : 0 ≤ x.fmod k := Int.fmod_nonneg_of_pos x (by omega)
  have h2 : x.fmod k < k := Int.fmod_lt_of_pos x (by omega)
  refine ⟨(x.fmod k).toNat, by omega, ?_⟩
  show (if (k : Int) ≠ 0 then lit (.int (x.fmod k)) else none) = _
  rw [if_pos k0]
  congr 3
  exact (Int.toNat_of_nonneg h1).symm
theorem div_nat {x : Int} {k : Nat} (hk : 1 ≤ k) (hk2 : k ≤ 1000) : fdivD (.int x) (nD k) = some ⟨.int (x.fdiv k), false⟩ := by
  show (if ((k : Int) ≠ 0 ∧ (k : Int).natAbs < 1073741824) ∨ (0 < (k : Int) ∧ (k : Int).natAbs.log2 < 9000) then lit (.int (x.fdiv k)) else none) = _
  rw [if_pos (.inl ⟨by omega, by omega⟩)]
theorem draw_big {a b : Int} {k : Nat} (ha : 0 < a) (hk : 1 ≤ k) (hk2 : k ≤ 1000) : ∃ (v : Nat) (a' : Int), v < k ∧ RetP m__law_draw [.ow true (potL a b), .vl (nD k), .un] ⟨nD v, false⟩ (potL a' b) := by
  obtain ⟨v, hv, e1⟩ := mod_nat (x := a) hk
  have e2 := div_nat (x := a) hk hk2
  have p0 := pot0 a b
  have w0 := set0 a b (a.fdiv k)
  refine ⟨v, a.fdiv k, hv, [.ow true (potL (a.fdiv k) b), .vl (nD k), .vl (nD v)], ?_, rfl⟩
  rw [m__law_draw]
  refine run_thenR ?_
  generalize potL a b = q at *
  generalize potL (a.fdiv k) b = q2 at *
  rw [run_if (e1 := [.ow true q, .vl (nD k), .un]) (t := true) (by simp [p0, gtD, ha]), if_pos rfl,
    run_then (e1 := [.ow true q, .vl (nD k), .vl (nD v)]) (by simp [p0, intF, e1]),
    run_then (e1 := [.ow true q2, .vl (nD k), .vl (nD v)]) (by simp [p0, intF, e2, subT, intO, w0])]
  exact run_thenR (run_ret (by simp))
theorem log_lt {x : Int} (h0 : 0 ≤ x) (h : x < 4294967296) : x.natAbs.log2 ≤ 32 := by
  by_cases z : x.natAbs = 0
  · rw [z]; decide
  · have : x.natAbs.log2 < 33 := (Nat.log2_lt z).mpr (by omega)
    omega
theorem mul_ok {x y : Int} (h0 : 0 ≤ x) (h : x < 4294967296) (g0 : 0 ≤ y) (g : y < 4294967296) : mulD (.int x) (.int y) = some ⟨.int (x * y), false⟩ := by
  have a := log_lt h0 h
  have b := log_lt g0 g
  show (if x.natAbs.log2 + y.natAbs.log2 < 1000000 then lit (.int (x * y)) else none) = _
  rw [if_pos (by omega)]
theorem add_ok (x y : Int) : addD (.int x) (.int y) = some ⟨.int (x + y), false⟩ := rfl
theorem mod_ok {x y : Int} (h : 0 < y) : modD (.int x) (.int y) = some ⟨.int (x.fmod y), false⟩ := by
  show (if y ≠ 0 then lit (.int (x.fmod y)) else none) = _
  rw [if_pos (by omega)]
theorem fdiv_ok {x y : Int} (h : 0 < y) (h2 : y < 1000) : fdivD (.int x) (.int y) = some ⟨.int (x.fdiv y), false⟩ := by
  show (if (y ≠ 0 ∧ y.natAbs < 1073741824) ∨ (0 < y ∧ y.natAbs.log2 < 9000) then lit (.int (x.fdiv y)) else none) = _
  rw [if_pos (.inl ⟨by omega, by omega⟩)]
theorem draw_small {a b : Int} {k : Nat} (ha : ¬ 0 < a) (b0 : 0 ≤ b) (b1 : b < 4294967296) (hk : 1 ≤ k) : ∃ (v : Nat) (b' : Int), v < k ∧ 0 ≤ b' ∧ b' < 4294967296 ∧ RetP m__law_draw [.ow true (potL a b), .vl (nD k), .un] ⟨nD v, false⟩ (potL a b') := by
  have c0 : 0 ≤ (b * 39373 + 4177).fmod 2147483549 := Int.fmod_nonneg_of_pos _ (by decide)
  have c1 : (b * 39373 + 4177).fmod 2147483549 < 2147483549 := Int.fmod_lt_of_pos _ (by decide)
  have m1 := mul_ok b0 b1 (y := 39373) (by decide) (by decide)
  have a1 := add_ok (b * 39373) 4177
  have o1 := mod_ok (x := b * 39373 + 4177) (y := 2147483549) (by decide)
  generalize (b * 39373 + 4177).fmod 2147483549 = c at *
  have m2 := mul_ok c0 (by omega) c0 (by omega)
  have o2 := mod_ok (x := c * c) (y := 2147483563) (by decide)
  have f2 := fdiv_ok (x := (c * c).fmod 2147483563) (y := 19) (by decide) (by decide)
  obtain ⟨v, hv, e1⟩ := mod_nat (x := ((c * c).fmod 2147483563).fdiv 19) hk
  have p0 := pot0 a b
  have p1 := pot1 a b
  have p2 := pot1 a c
  have w0 := set1 a b c
  refine ⟨v, c, hv, c0, by omega, [.ow true (potL a c), .vl (nD k), .un], ?_, rfl⟩
  rw [m__law_draw]
  generalize b * 39373 + 4177 = x1 at *
  generalize b * 39373 = x2 at *
  generalize ((c * c).fmod 2147483563).fdiv 19 = x3 at *
  generalize (c * c).fmod 2147483563 = x4 at *
  generalize c * c = x5 at *
  generalize potL a b = q at *
  generalize potL a c = q2 at *
  rw [run_then (e1 := [.ow true q, .vl (nD k), .un]) (by
      rw [run_if (e1 := [.ow true q, .vl (nD k), .un]) (t := false) (by simp [p0, gtD]; omega), if_neg (by simp)]
      exact (rfl)),
    run_then (e1 := [.ow true q2, .vl (nD k), .un]) (by simp [p1, intF, m1, a1, o1, subT, intO, w0])]
  exact run_thenR (run_ret (by simp [p2, intF, m2, o2, f2, e1]))
/-- a pot that may be drawn from -/
structure Pot (a b : Int) : Prop where
  b0 : 0 ≤ b
  b1 : b < 4294967296
theorem draw_run {a b : Int} {k : Nat} (p : Pot a b) (hk : 1 ≤ k) (hk2 : k ≤ 1000) : ∃ (v : Nat) (a' b' : Int), v < k ∧ Pot a' b' ∧ RetP m__law_draw [.ow true (potL a b), .vl (nD k), .un] ⟨nD v, false⟩ (potL a' b') := by
  by_cases ha : 0 < a
  · obtain ⟨v, a', h1, h2⟩ := draw_big (b := b) ha hk hk2
    exact ⟨v, a', b, h1, ⟨p.b0, p.b1⟩, h2⟩
  · obtain ⟨v, b', h1, h2, h3, h4⟩ := draw_small ha p.b0 p.b1 hk
    exact ⟨v, a, b', h1, ⟨h2, h3⟩, h4⟩
/-- a draw, wherever the pot lies -/
theorem k_draw {a b : Int} {k i : Nat} {c : Bool} {e : En} (p : Pot a b) (hk : 1 ≤ k) (hk2 : k ≤ 1000) (hi : e[i]? = some (.ow c (potL a b))) : ∃ (v : Nat) (a' b' : Int), v < k ∧ Pot a' b' ∧ runPM i N__law_draw.length ps__law_draw.length m__law_draw [nD k] e = some (.ok ⟨nD v, false⟩ (e.set i (.ow c (potL a' b')))) := by
  obtain ⟨v, a', b', h1, h2, h3⟩ := draw_run p hk hk2
  exact ⟨v, a', b', h1, h2, runPM_eq hi rfl rfl h3⟩
end Lw

set_option Elab.async false
set_option linter.all false
set_option maxRecDepth 100000
set_option maxHeartbeats 4000000
namespace Lw
open PySem PySem.Spec L2 Ev
theorem cell_run (nums : List Int) (a b : Sl) : ∃ c : Int, 0 ≤ c ∧ setM 2 (frzM (iteM (asB (op2 (cmpD .lt) (readO 1) (toO (op1L lenF (readO 0))))) (op1L absF (toO (op2 idxD (readO 0) (readO 1)))) (op2 addD (toO (op2 mulD (toO (pure ⟨.int 613, false⟩)) (readO 1))) (toO (pure ⟨.int 859, false⟩))))) [.vl (.list (nums.map PyData.int)), .vl (.int 0), a, b] = some (.ok .nx [.vl (.list (nums.map PyData.int)), .vl (.int 0), .vl (.int c), b]) := by
  cases nums with
  | nil =>
    refine ⟨859, by decide, ?_⟩
    have m1 : mulD (.int 613) (.int 0) = some ⟨.int 0, false⟩ := by
      show (if (613 : Int).natAbs.log2 + (0 : Int).natAbs.log2 < 1000000 then lit (.int (613 * 0)) else none) = _
      rw [if_pos (by decide)]
      rfl
    have a1 := add_ok 0 859
    simp [lenF, ltD, m1, a1]
  | cons x xs =>
    have i1 : idxD (.list ((x :: xs).map PyData.int)) (.int 0) = some ⟨.int x, false⟩ := by rw [idx_lst, atI_zero]; rfl
    have l1 : lenF [.list ((x :: xs).map PyData.int)] = some ⟨.int ((xs.length : Int) + 1), false⟩ := by simp [lenF]
    have g : (0 : Int) < (xs.length : Int) + 1 := by omega
    generalize PyData.list ((x :: xs).map PyData.int) = z at *
    refine ⟨if x < 0 then -x else x, by split <;> omega, ?_⟩
    simp [l1, i1, ltD, g, absF]
theorem r__law_pot (nums : List Int) : ∃ a b : Int, Pot a b ∧ Ret m__law_pot [.vl (.list (nums.map PyData.int)), .vl (.int 0), .un, .un] ⟨.list (potL a b), true⟩ := by
  obtain ⟨c, c0, s1⟩ := cell_run nums .un .un
  have d0 : 0 ≤ c.fmod 2147483549 := Int.fmod_nonneg_of_pos _ (by decide)
  have d1 : c.fmod 2147483549 < 2147483549 := Int.fmod_lt_of_pos _ (by decide)
  have o1 := mod_ok (x := c) (y := 2147483549) (by decide)
  generalize c.fmod 2147483549 = d at *
  have m1 := mul_ok d0 (by omega) (y := 39373) (by decide) (by decide)
  have m2 := mul_ok (x := 4177) (y := 0) (by decide) (by decide) (by decide) (by decide)
  have a1 := add_ok (d * 39373) (4177 * 0)
  have a2 := add_ok (d * 39373 + 4177 * 0) 101
  have f0 : 0 ≤ (d * 39373 + 4177 * 0 + 101).fmod 2147483563 := Int.fmod_nonneg_of_pos _ (by decide)
  have f1 : (d * 39373 + 4177 * 0 + 101).fmod 2147483563 < 2147483563 := Int.fmod_lt_of_pos _ (by decide)
  have o2 := mod_ok (x := d * 39373 + 4177 * 0 + 101) (y := 2147483563) (by decide)
  generalize (d * 39373 + 4177 * 0 + 101).fmod 2147483563 = g at *
  have a3 := add_ok g 1
  generalize d * 39373 + 4177 * 0 + 101 = y1 at *
  generalize d * 39373 + 4177 * 0 = y2 at *
  generalize d * 39373 = y3 at *
  have s2 : setM 3 (frzM (op2 addD (toO (op2 modD (toO (op1L intF (toO (op2 addD (toO (op2 addD (toO (op2 mulD (toO (op2 modD (toO (op1L intF (readO 2))) (toO (pure ⟨.int 2147483549, false⟩)))) (toO (pure ⟨.int 39373, false⟩)))) (toO (op2 mulD (toO (pure ⟨.int 4177, false⟩)) (readO 1))))) (toO (pure ⟨.int 101, false⟩)))))) (toO (pure ⟨.int 2147483563, false⟩)))) (toO (pure ⟨.int 1, false⟩)))) [.vl (.list (nums.map PyData.int)), .vl (.int 0), .vl (.int c), .un] = some (.ok .nx [.vl (.list (nums.map PyData.int)), .vl (.int 0), .vl (.int c), .vl (.int (g + 1))]) := by
    generalize PyData.list (nums.map PyData.int) = z at *
    generalize (4177 : Int) * 0 = y4 at *
    simp [intF, o1, m1, m2, a1, a2, o2, a3]
  have p18 : powD (.int 10) (.int 18) = some ⟨.int 1000000000000000000, false⟩ := by rfl
  refine ⟨if c - 1000000000000000000 > 0 then c - 1000000000000000000 else 0, g + 1, ⟨by omega, by omega⟩, ?_⟩
  have sb : subD (.int c) (.int 1000000000000000000) = some ⟨.int (c - 1000000000000000000), false⟩ := rfl
  have mx : maxF [.int 0, .int (c - 1000000000000000000)] = some ⟨.int (if c - 1000000000000000000 > 0 then c - 1000000000000000000 else 0), false⟩ := rfl
  refine ret_of (e1 := [.vl (.list (nums.map PyData.int)), .vl (.int 0), .vl (.int c), .vl (.int (g + 1))]) ?_
  generalize (if c - 1000000000000000000 > 0 then c - 1000000000000000000 else 0) = w at *
  generalize c - 1000000000000000000 = w2 at *
  rw [m__law_pot, run_then s1, run_then s2]
  generalize PyData.list (nums.map PyData.int) = z at *
  exact run_thenR (run_ret (by simp [p18, sb, mx]))
end Lw

set_option Elab.async false
set_option linter.all false
namespace Lw
theorem sub_len : ∀ {a b : List Nat}, a.Nodup → (∀ x ∈ a, x ∈ b) → a.length ≤ b.length
  | [], b, _, _ => Nat.zero_le _
  | x :: a, b, h, k => by
    obtain ⟨h1, h2⟩ := List.nodup_cons.mp h
    have hx := k x List.mem_cons_self
    have := sub_len (b := b.erase x) h2 fun y hy => by
      have ne : y ≠ x := fun z => h1 (by rw [← z]; exact hy)
      exact (List.mem_erase_of_ne ne).mpr (k y (List.mem_cons_of_mem _ hy))
    rw [List.length_erase_of_mem hx] at this
    have p := List.length_pos_of_mem hx
    simp only [List.length_cons]
    omega
/-- how many unlike ones -/
def uniq : List Nat → List Nat
  | [] => []
  | x :: l => if x ∈ uniq l then uniq l else x :: uniq l
theorem mem_uniq {x : Nat} : ∀ {l : List Nat}, x ∈ uniq l ↔ x ∈ l
  | [] => Iff.rfl
  | y :: l => by
    unfold uniq
    split
    · rename_i h
      rw [mem_uniq, List.mem_cons]
      constructor
      · exact .inr
      · rintro (rfl | h2)
        · exact mem_uniq.mp h
        · exact h2
    · rw [List.mem_cons, List.mem_cons, mem_uniq]
theorem nodup_uniq : ∀ l : List Nat, (uniq l).Nodup
  | [] => List.nodup_nil
  | y :: l => by
    unfold uniq
    split
    · exact nodup_uniq l
    · rename_i h
      exact List.nodup_cons.mpr ⟨h, nodup_uniq l⟩
def card (l : List Nat) : Nat := (uniq l).length
theorem card_mono {a b : List Nat} (h : ∀ x ∈ a, x ∈ b) : card a ≤ card b := sub_len (nodup_uniq a) fun x hx => mem_uniq.mpr (h x (mem_uniq.mp hx))
theorem card_app {a b c : List Nat} (h : ∀ x ∈ a, x ∈ b ∨ x ∈ c) : card a ≤ card b + card c := by
  have := sub_len (b := uniq b ++ uniq c) (nodup_uniq a) fun x hx => List.mem_append.mpr ((h x (mem_uniq.mp hx)).imp mem_uniq.mpr mem_uniq.mpr)
  rwa [List.length_append] at this
theorem card_nodup {a b : List Nat} (n : a.Nodup) (h : ∀ x ∈ a, x ∈ b) : a.length ≤ card b := sub_len n fun x hx => mem_uniq.mpr (h x hx)
theorem card_one {x : Nat} : card [x] = 1 := rfl
/-- what the rows S have beside U -/
def nb (A : Nat → List Nat) (U S : List Nat) : List Nat := (S.flatMap A).filter fun x => decide (x ∉ U)
theorem mem_nb {A : Nat → List Nat} {U S : List Nat} {x : Nat} : x ∈ nb A U S ↔ (∃ i ∈ S, x ∈ A i) ∧ x ∉ U := by
  simp [nb, List.mem_filter, List.mem_flatMap]
theorem nodup_app {a b : List Nat} (ha : a.Nodup) (hb : b.Nodup) (h : ∀ x ∈ a, x ∉ b) : (a ++ b).Nodup := List.nodup_append.mpr ⟨ha, hb, fun x hx y hy e => h x hx (by rw [e]; exact hy)⟩
theorem hall (A : Nat → List Nat) : ∀ (k : Nat) (I U : List Nat), I.length ≤ k → I.Nodup → (∀ S : List Nat, S.Nodup → (∀ i ∈ S, i ∈ I) → S.length ≤ card (nb A U S)) →
    ∃ f : Nat → Nat, (∀ i ∈ I, f i ∈ A i ∧ f i ∉ U) ∧ ∀ i ∈ I, ∀ j ∈ I, f i = f j → i = j
  | _, [], U, _, _, _ => ⟨fun _ => 0, by simp⟩
  | 0, _ :: _, _, hk, _, _ => by simp at hk
  | k + 1, i :: I, U, hk, nd, hS => by
    obtain ⟨ni, nI⟩ := List.nodup_cons.mp nd
    have hk2 : I.length ≤ k := by simpa using hk
    by_cases c : ∀ S : List Nat, S.Nodup → S ≠ [] → (∀ j ∈ S, j ∈ I) → S.length + 1 ≤ card (nb A U S)
    · have h1 := hS [i] (by simp) (by simp)
      have ex : ∃ x, x ∈ nb A U [i] := by
        cases q : nb A U [i] with
        | nil => rw [q] at h1; simp [card, uniq] at h1
        | cons x l => exact ⟨x, List.mem_cons_self⟩
      obtain ⟨x, hx⟩ := ex
      obtain ⟨⟨i', hi', hxa⟩, hxu⟩ := mem_nb.mp hx
      have hi' : i' = i := by simpa using hi'
      subst hi'
      obtain ⟨f, f1, f2⟩ := hall A k I (x :: U) hk2 nI fun S n s => by
        by_cases z : S = []
        · subst z; exact Nat.zero_le _
        · have h3 := c S n z s
          have h4 : card (nb A U S) ≤ card (nb A (x :: U) S) + card [x] := card_app fun y hy => by
            obtain ⟨a, b⟩ := mem_nb.mp hy
            by_cases e : y = x
            · exact .inr (by simp [e])
            · exact .inl (mem_nb.mpr ⟨a, fun w => by
                rcases List.mem_cons.mp w with w | w
                · exact e w
                · exact b w⟩)
          rw [card_one] at h4
          omega
      refine ⟨fun j => if j = i' then x else f j, fun j hj => ?_, fun j hj l hl => ?_⟩
      · by_cases e : j = i'
        · subst e; simp [hxa, hxu]
        · have hj : j ∈ I := by simpa [e] using hj
          obtain ⟨a, b⟩ := f1 j hj
          simp only [e, if_false]
          exact ⟨a, fun w => b (List.mem_cons_of_mem _ w)⟩
      · by_cases e : j = i' <;> by_cases e2 : l = i'
        · intro _; rw [e, e2]
        · have hl : l ∈ I := by simpa [e2] using hl
          simp only [e, e2, if_true, if_false]
          intro w
          exact absurd (List.mem_cons.mpr (.inl w.symm)) (f1 l hl).2
        · have hj : j ∈ I := by simpa [e] using hj
          simp only [e, e2, if_true, if_false]
          intro w
          exact absurd (List.mem_cons.mpr (.inl w)) (f1 j hj).2
        · have hl : l ∈ I := by simpa [e2] using hl
          have hj : j ∈ I := by simpa [e] using hj
          simp only [e, e2, if_false]
          exact f2 j hj l hl
    · have c : ∃ S : List Nat, S.Nodup ∧ S ≠ [] ∧ (∀ j ∈ S, j ∈ I) ∧ ¬ S.length + 1 ≤ card (nb A U S) := Classical.byContradiction fun z => c fun S a b d => Classical.byContradiction fun e => z ⟨S, a, b, d, e⟩
      obtain ⟨S, nS, S0, sI, hc⟩ := c
      have lS : S.length ≤ I.length := sub_len nS sI
      obtain ⟨f, f1, f2⟩ := hall A k S U (by omega) nS fun T n t => hS T n fun j hj => List.mem_cons_of_mem _ (sI j (t j hj))
      have pS : 1 ≤ S.length := by
        cases S with
        | nil => exact absurd rfl S0
        | cons => simp
      have lR : ((i :: I).filter fun j => decide (j ∉ S)).length + S.length ≤ (i :: I).length := by
        have := sub_len (a := ((i :: I).filter fun j => decide (j ∉ S)) ++ S) (b := i :: I) (nodup_app (nd.filter _) nS fun x hx => by
          have := (List.mem_filter.mp hx).2
          simpa using this) fun x hx => by
          rcases List.mem_append.mp hx with hx | hx
          · exact (List.mem_filter.mp hx).1
          · exact List.mem_cons_of_mem _ (sI x hx)
        rwa [List.length_append] at this
      obtain ⟨g, g1, g2⟩ := hall A k ((i :: I).filter fun j => decide (j ∉ S)) (U ++ S.flatMap A) (by simp only [List.length_cons] at lR; omega) (nd.filter _) fun T n t => by
        have dj : ∀ x ∈ T, x ∉ S := fun x hx => by
          have := (List.mem_filter.mp (t x hx)).2
          simpa using this
        have h3 := hS (S ++ T) (nodup_app nS n fun x hx hy => dj x hy hx) fun x hx => by
          rcases List.mem_append.mp hx with hx | hx
          · exact List.mem_cons_of_mem _ (sI x hx)
          · exact (List.mem_filter.mp (t x hx)).1
        have h4 : card (nb A U (S ++ T)) ≤ card (nb A U S) + card (nb A (U ++ S.flatMap A) T) := card_app fun y hy => by
          obtain ⟨⟨j, hj, hy1⟩, hy2⟩ := mem_nb.mp hy
          by_cases w : y ∈ S.flatMap A
          · obtain ⟨l, hl, hyl⟩ := List.mem_flatMap.mp w
            exact .inl (mem_nb.mpr ⟨⟨l, hl, hyl⟩, hy2⟩)
          · refine .inr (mem_nb.mpr ⟨⟨j, ?_, hy1⟩, fun z => ?_⟩)
            · rcases List.mem_append.mp hj with hj | hj
              · exact absurd (List.mem_flatMap.mpr ⟨j, hj, hy1⟩) w
              · exact hj
            · rcases List.mem_append.mp z with z | z
              · exact hy2 z
              · exact w z
        rw [List.length_append] at h3
        omega
      have inR : ∀ {j}, j ∈ i :: I → j ∉ S → j ∈ (i :: I).filter fun j => decide (j ∉ S) := fun a b => List.mem_filter.mpr ⟨a, by simpa using b⟩
      have cross : ∀ {j l}, j ∈ S → l ∈ i :: I → l ∉ S → f j ≠ g l := fun {j l} a b d e => (g1 l (inR b d)).2 (List.mem_append.mpr (.inr (by rw [← e]; exact List.mem_flatMap.mpr ⟨j, a, (f1 j a).1⟩)))
      refine ⟨fun j => if j ∈ S then f j else g j, fun j hj => ?_, fun j hj l hl => ?_⟩
      · by_cases e : j ∈ S
        · simp only [e, if_true]; exact f1 j e
        · simp only [e, if_false]
          obtain ⟨a, b⟩ := g1 j (inR hj e)
          exact ⟨a, fun w => b (List.mem_append.mpr (.inl w))⟩
      · by_cases e : j ∈ S <;> by_cases e2 : l ∈ S
        · simp only [e, e2, if_true]; exact f2 j e l e2
        · simp only [e, e2, if_true, if_false]
          exact fun w => absurd w (cross e hl e2)
        · simp only [e, e2, if_true, if_false]
          exact fun w => absurd w.symm (cross e2 hj e)
        · simp only [e, e2, if_false]
          exact g2 j (inR hj e) l (inR hl e2)
end Lw

set_option Elab.async false
set_option linter.all false
set_option maxRecDepth 100000
namespace Lw
open PySem PySem.Spec L2 Ev
/-- all rows of unlike choices, in sequence -/
def rows : List (List Nat) → List Nat → List (List Nat)
  | [], _ => [[]]
  | o :: own, used => o.flatMap fun a => if a ∈ used then [] else (rows own (used ++ [a])).map (a :: ·)
theorem head_flat {α β : Type} (f : α → List β) : ∀ l : List α, (l.flatMap f).head? = l.findSome? fun a => (f a).head?
  | [] => rfl
  | a :: l => by
    rw [List.flatMap_cons, List.findSome?_cons, List.head?_append, head_flat f l]
    cases (f a).head? <;> rfl
theorem dfs_head : ∀ (own : List (List Nat)) (used : List Nat), dfs own used = (rows own used).head?
  | [], used => rfl
  | o :: own, used => by
    unfold dfs rows
    rw [head_flat]
    congr 1
    funext a
    split
    · rfl
    · rw [dfs_head own, List.head?_map]
theorem bfs_rows : ∀ (own line : List (List Nat)), own.foldl bfs1 line = line.flatMap fun t => (rows own t).map (t ++ ·)
  | [], line => by
    simp [rows]
  | o :: own, line => by
    rw [List.foldl_cons, bfs_rows own]
    unfold bfs1
    rw [List.flatMap_assoc]
    congr 1
    funext t
    have e : rows (o :: own) t = o.flatMap fun a => if a ∈ t then [] else (rows own (t ++ [a])).map (a :: ·) := rfl
    rw [e]
    clear e
    unfold ext1
    rw [List.flatMap_map, List.map_flatMap]
    induction o with
    | nil => rfl
    | cons a o ih =>
      rw [List.filter_cons, List.flatMap_cons]
      by_cases h : a ∈ t
      · simpa [h] using ih
      · simp only [h, not_false_eq_true, decide_true, if_true, List.flatMap_cons, ih, if_false, List.map_map]
        congr 2
        funext x
        simp
/-- rows in rising sequence -/
def Up (l : List (List Nat)) : Prop := l.Pairwise fun a b => ltL b a = false
theorem up_cons {a : Nat} {l : List (List Nat)} (h : Up l) : Up (l.map (a :: ·)) := List.pairwise_map.mpr (h.imp fun h => by simpa [ltL] using h)
theorem rows_up : ∀ (own : List (List Nat)) (used : List Nat), (∀ o ∈ own, o.Pairwise (· < ·)) → Up (rows own used)
  | [], used, _ => by simp [rows, Up]
  | o :: own, used, h => by
    have ih := fun u => rows_up own u fun x hx => h x (List.mem_cons_of_mem _ hx)
    have ho := h o List.mem_cons_self
    unfold rows
    clear h
    induction o with
    | nil => simp [Up]
    | cons a o io =>
      rw [List.flatMap_cons]
      obtain ⟨h1, h2⟩ := List.pairwise_cons.mp ho
      refine List.pairwise_append.mpr ⟨?_, io h2, ?_⟩
      · split
        · exact .nil
        · exact up_cons (ih _)
      · intro x hx y hy
        split at hx
        · cases hx
        · obtain ⟨x', _, rfl⟩ := List.mem_map.mp hx
          obtain ⟨b, hb, hy⟩ := List.mem_flatMap.mp hy
          split at hy
          · cases hy
          · obtain ⟨y', _, rfl⟩ := List.mem_map.mp hy
            have := h1 b hb
            unfold ltL
            rw [if_neg (by omega)]
            simp
            omega
theorem min_head : ∀ (l : List (List Nat)) (m : List Nat), (∀ y ∈ l, ltL y m = false) → minL m l = m
  | [], m, _ => rfl
  | y :: l, m, h => by
    unfold minL
    rw [List.foldl_cons, h y List.mem_cons_self]
    exact min_head l m fun z hz => h z (List.mem_cons_of_mem _ hz)
theorem least_head {l : List (List Nat)} (h : Up l) : leastL l = l.head? := by
  cases l with
  | nil => rfl
  | cons m l =>
    exact congrArg some (min_head l m (List.pairwise_cons.mp h).1)
/-- first found is least -/
theorem least_dfs {own : List (List Nat)} (h : ∀ o ∈ own, o.Pairwise (· < ·)) : leastL (bfs own) = dfs own [] := by
  have e : bfs own = rows own [] := by
    unfold bfs
    rw [bfs_rows]
    simp
  rw [e, least_head (rows_up own [] h), dfs_head]
theorem mem_rows : ∀ {own : List (List Nat)} {used t : List Nat}, t ∈ rows own used ↔ t.length = own.length ∧ t.Nodup ∧ (∀ a ∈ t, a ∉ used) ∧ ∀ p ∈ t.zip own, p.1 ∈ p.2
  | [], used, t => by
    unfold rows
    constructor
    · intro h
      have : t = [] := by simpa using h
      subst this
      simp
    · intro ⟨h, _⟩
      have : t = [] := by simpa using h
      simp [this]
  | o :: own, used, t => by
    unfold rows
    rw [List.mem_flatMap]
    constructor
    · rintro ⟨a, ha, h⟩
      split at h
      · cases h
      · rename_i hu
        obtain ⟨u, hu2, rfl⟩ := List.mem_map.mp h
        obtain ⟨l, n, d, z⟩ := mem_rows.mp hu2
        refine ⟨by simp [l], List.nodup_cons.mpr ⟨fun w => d a w (by simp), n⟩, fun b hb => ?_, fun p hp => ?_⟩
        · rcases List.mem_cons.mp hb with rfl | hb
          · exact hu
          · exact fun w => d b hb (by simp [w])
        · rw [List.zip_cons_cons] at hp
          rcases List.mem_cons.mp hp with rfl | hp
          · exact ha
          · exact z p hp
    · rintro ⟨l, n, d, z⟩
      cases t with
      | nil => cases l
      | cons a t =>
        obtain ⟨n1, n2⟩ := List.nodup_cons.mp n
        refine ⟨a, z (a, o) (by simp), ?_⟩
        rw [if_neg (d a (by simp))]
        refine List.mem_map.mpr ⟨t, mem_rows.mpr ⟨by simpa using l, n2, fun b hb w => ?_, fun p hp => z p (by simp [hp])⟩, rfl⟩
        rcases List.mem_append.mp w with w | w
        · exact d b (by simp [hb]) w
        · have : b = a := by simpa using w
          exact n1 (by rw [← this]; exact hb)
theorem dfs_some {own : List (List Nat)} {t : List Nat} (h : dfs own [] = some t) : t.length = own.length ∧ t.Nodup ∧ ∀ p ∈ t.zip own, p.1 ∈ p.2 := by
  rw [dfs_head] at h
  have : t ∈ rows own [] := by
    cases q : rows own [] with
    | nil => rw [q] at h; cases h
    | cons x l => rw [q] at h; cases h; exact List.mem_cons_self
  obtain ⟨a, b, _, c⟩ := mem_rows.mp this
  exact ⟨a, b, c⟩
theorem dfs_none {own : List (List Nat)} (h : dfs own [] = none) {t : List Nat} (l : t.length = own.length) (n : t.Nodup) (z : ∀ p ∈ t.zip own, p.1 ∈ p.2) : False := by
  rw [dfs_head] at h
  have : t ∈ rows own [] := mem_rows.mpr ⟨l, n, by simp, z⟩
  cases q : rows own [] with
  | nil => rw [q] at this; cases this
  | cons x l => rw [q] at h; cases h
/-! states and their messages -/
section
variable {n : Nat} {F : Nat → Nat → Int} {m : List Nat} {s : Nat} {ms : List (List Nat)}
theorem mem_fit {s : Nat} : s ∈ fit F m ↔ s ∈ m ∧ ∀ o ∈ m, ¬ F o o < F o s := by
  unfold fit
  rw [List.mem_filter]
  simp
theorem mem_own {a : Nat} : a ∈ ownS F ms s ↔ ∃ h : a < ms.length, s ∈ fit F ms[a] := by
  unfold ownS
  rw [List.mem_map]
  constructor
  · rintro ⟨⟨m, i⟩, hp, rfl⟩
    obtain ⟨h1, h2⟩ := List.mem_filter.mp hp
    have := List.mem_zipIdx_iff_getElem?.mp h1
    obtain ⟨hl, e⟩ := List.getElem?_eq_some_iff.mp this
    refine ⟨hl, ?_⟩
    rw [e]
    simpa using h2
  · rintro ⟨hl, h⟩
    exact ⟨(ms[a], a), List.mem_filter.mpr ⟨List.mem_zipIdx_iff_getElem?.mpr (by simp [hl]), by simpa using h⟩, rfl⟩
theorem own_up : (ownS F ms s).Pairwise (· < ·) := by
  unfold ownS
  refine List.pairwise_map.mpr (List.Pairwise.filter _ ?_)
  have : ∀ (l : List (List Nat)) (k : Nat), (l.zipIdx k).Pairwise fun a b => a.2 < b.2 := by
    intro l
    induction l with
    | nil => intro k; simp
    | cons x l ih =>
      intro k
      rw [List.zipIdx_cons]
      refine List.pairwise_cons.mpr ⟨fun p hp => ?_, ih _⟩
      obtain ⟨y, i⟩ := p
      have := List.le_snd_of_mem_zipIdx hp
      simp at this ⊢
      omega
  exact this ms 0
theorem least_own : leastL (bfs (ownL n F ms)) = dfs (ownL n F ms) [] := least_dfs fun o ho => by
  obtain ⟨s, _, rfl⟩ := List.mem_map.mp ho
  exact own_up
/-- a told row of tells -/
structure Told (n : Nat) (F : Nat → Nat → Int) (ms : List (List Nat)) (t : List Nat) : Prop where
  len : t.length = n
  nd : t.Nodup
  own : ∀ (s : Nat) (h : s < t.length), t[s] ∈ ownS F ms s
theorem zip_own {t : List Nat} (l : t.length = n) : (∀ p ∈ t.zip (ownL n F ms), p.1 ∈ p.2) ↔ ∀ (s : Nat) (h : s < t.length), t[s] ∈ ownS F ms s := by
  unfold ownL
  constructor
  · intro h s hs
    refine h (t[s], ownS F ms s) (List.mem_iff_getElem.mpr ⟨s, by simp [l]; omega, by simp⟩)
  · intro h p hp
    obtain ⟨i, hi, rfl⟩ := List.mem_iff_getElem.mp hp
    have hi2 : i < t.length := by simp at hi; omega
    have := h i hi2
    simpa using this
theorem dfs_told {t : List Nat} (h : dfs (ownL n F ms) [] = some t) : Told n F ms t := by
  obtain ⟨a, b, c⟩ := dfs_some h
  have a : t.length = n := by simpa [ownL] using a
  exact ⟨a, b, (zip_own a).mp c⟩
theorem told_dfs {t : List Nat} (h : Told n F ms t) (q : dfs (ownL n F ms) [] = none) : False := dfs_none q (by simpa [ownL] using h.len) h.nd ((zip_own h.len).mpr h.own)
end
end Lw

set_option Elab.async false
set_option linter.all false
set_option maxRecDepth 100000
namespace Lw
open PySem PySem.Spec L2 Ev
theorem full_lt {n : Nat} (h1 : 1 ≤ n) (h4 : n ≤ 4) : ∀ t ∈ fullL n, (∀ s ∈ t, s < n) ∧ t.length ≤ 4 := four (p := fun n => ∀ t ∈ fullL n, (∀ s ∈ t, s < n) ∧ t.length ≤ 4) h1 h4 (by decide) (by decide) (by decide) (by decide)
theorem cnt_card (m : List Nat) : cnt m = card m := by
  have n2 : ((uniq m).map Int.ofNat).Nodup := List.pairwise_map.mpr (List.Pairwise.imp (fun hne z => hne (Int.ofNat.inj z)) (nodup_uniq m))
  have p : (distL (m.map Int.ofNat)).Perm ((uniq m).map Int.ofNat) := (List.perm_ext_iff_of_nodup (dist_nodup _) n2).mpr fun k => by
    rw [mem_dist, List.mem_map, List.mem_map]
    exact ⟨fun ⟨a, h, e⟩ => ⟨a, mem_uniq.mpr h, e⟩, fun ⟨a, h, e⟩ => ⟨a, mem_uniq.mp h, e⟩⟩
  unfold cnt card
  rw [p.length_eq, List.length_map]
section
variable {n : Nat} {F : Nat → Nat → Int} {m : List Nat} {s : Nat} {ms : List (List Nat)}
theorem short_iff {S : List Nat} : shortB F ms S = true ↔ card (S.flatMap (ownS F ms)) < S.length := by
  unfold shortB
  rw [cnt_card]
  simp
theorem full_nodup (h1 : 1 ≤ n) (h4 : n ≤ 4) : ∀ t ∈ fullL n, t.Nodup ∧ t ≠ [] ∧ asc t = true := four (p := fun n => ∀ t ∈ fullL n, t.Nodup ∧ t ≠ [] ∧ asc t = true) h1 h4 (by decide +kernel) (by decide +kernel) (by decide +kernel) (by decide +kernel)
theorem size_full (h1 : 1 ≤ n) (h4 : n ≤ 4) : (∀ t ∈ bySize n, t ∈ fullL n) ∧ ∀ t ∈ fullL n, t ∈ bySize n := four (p := fun n => (∀ t ∈ bySize n, t ∈ fullL n) ∧ ∀ t ∈ fullL n, t ∈ bySize n) h1 h4 (by decide +kernel) (by decide +kernel) (by decide +kernel) (by decide +kernel)
/-- told rows leave no states short -/
theorem told_not_short {t : List Nat} (h : Told n F ms t) {S : List Nat} (nd : S.Nodup) (hs : ∀ s ∈ S, s < n) : shortB F ms S = false := by
  rw [Bool.eq_false_iff]
  intro z
  have z := short_iff.mp z
  have hl := h.len
  have l : (S.map fun s => t.getD s 0).length ≤ card (S.flatMap (ownS F ms)) := by
    refine card_nodup ?_ ?_
    · refine List.pairwise_map.mpr ((List.Pairwise.imp_of_mem fun ha hb hne e => ?_) nd)
      have h1 := hs _ ha
      have h2 := hs _ hb
      rw [List.getD_eq_getElem?_getD, List.getD_eq_getElem?_getD, List.getElem?_eq_getElem (by omega), List.getElem?_eq_getElem (by omega)] at e
      exact hne ((List.getElem_inj h.nd).mp e)
    · intro x hx
      obtain ⟨s, h1, rfl⟩ := List.mem_map.mp hx
      have h2 : s < t.length := by have := hs s h1; omega
      rw [List.getD_eq_getElem?_getD, List.getElem?_eq_getElem h2]
      exact List.mem_flatMap.mpr ⟨s, h1, h.own s h2⟩
  rw [List.length_map] at l
  omega
theorem range_full (h1 : 1 ≤ n) (h4 : n ≤ 4) (p : Nat → Bool) (h : (List.range n).filter p ≠ []) : (List.range n).filter p ∈ fullL n := by
  revert h
  obtain rfl | rfl | rfl | rfl : n = 1 ∨ n = 2 ∨ n = 3 ∨ n = 4 := by omega
  · rw [show List.range 1 = [0] from rfl]
    cases h0 : p 0 <;> simp [List.filter_cons, h0, fullL]
  · rw [show List.range 2 = [0, 1] from rfl]
    cases h0 : p 0 <;> cases h1 : p 1 <;> simp [List.filter_cons, h0, h1, fullL]
  · rw [show List.range 3 = [0, 1, 2] from rfl]
    cases h0 : p 0 <;> cases h1 : p 1 <;> cases h2 : p 2 <;> simp [List.filter_cons, h0, h1, h2, fullL]
  · rw [show List.range 4 = [0, 1, 2, 3] from rfl]
    cases h0 : p 0 <;> cases h1 : p 1 <;> cases h2 : p 2 <;> cases h3 : p 3 <;> simp [List.filter_cons, h0, h1, h2, h3, fullL]
/-- Hall: none told, some short -/
theorem none_short (h1 : 1 ≤ n) (h4 : n ≤ 4) (h : dfs (ownL n F ms) [] = none) : ∃ S ∈ fullL n, shortB F ms S = true := by
  refine Classical.byContradiction fun z => ?_
  have z : ∀ S ∈ fullL n, ¬ card (S.flatMap (ownS F ms)) < S.length := fun S hS w => z ⟨S, hS, short_iff.mpr w⟩
  obtain ⟨f, f1, f2⟩ := hall (ownS F ms) n (List.range n) [] (by simp) List.nodup_range fun S nd hs => by
    have e : card (S.flatMap (ownS F ms)) ≤ card (nb (ownS F ms) [] S) := card_mono fun x hx => by
      obtain ⟨i, a, b⟩ := List.mem_flatMap.mp hx
      exact mem_nb.mpr ⟨⟨i, a, b⟩, by simp⟩
    by_cases c : S = []
    · subst c; exact Nat.zero_le _
    · have m1 : ∀ x, x ∈ (List.range n).filter (fun s => decide (s ∈ S)) ↔ x ∈ S := fun x => by
        rw [List.mem_filter]
        simp only [decide_eq_true_eq]
        exact ⟨fun h => h.2, fun h => ⟨hs x h, h⟩⟩
      have ne : (List.range n).filter (fun s => decide (s ∈ S)) ≠ [] := fun w => by
        cases S with
        | nil => exact c rfl
        | cons x S =>
          have := (m1 x).mpr List.mem_cons_self
          rw [w] at this
          cases this
      have z1 := z _ (range_full h1 h4 _ ne)
      have l1 : S.length ≤ ((List.range n).filter (fun s => decide (s ∈ S))).length := sub_len nd fun x hx => (m1 x).mpr hx
      have l2 : card (((List.range n).filter (fun s => decide (s ∈ S))).flatMap (ownS F ms)) ≤ card (S.flatMap (ownS F ms)) := card_mono fun x hx => by
        obtain ⟨i, a, b⟩ := List.mem_flatMap.mp hx
        exact List.mem_flatMap.mpr ⟨i, (m1 i).mp a, b⟩
      omega
  have len : ((List.range n).map f).length = n := by simp
  refine told_dfs (t := (List.range n).map f) ⟨len, ?_, fun s hs => ?_⟩ h
  · refine List.pairwise_map.mpr (List.Pairwise.imp_of_mem (fun ha hb hne e => hne (f2 _ ha _ hb e)) List.nodup_range)
  · have : s < n := by rw [len] at hs; exact hs
    simpa using (f1 s (List.mem_range.mpr this)).1
/-! the first by size is the least -/
end
end Lw

set_option Elab.async false
set_option linter.all false
set_option maxRecDepth 100000
namespace Lw
open PySem PySem.Spec L2 Ev
section
variable {n : Nat} {F : Nat → Nat → Int} {m : List Nat} {s : Nat} {ms : List (List Nat)}
theorem getD_at {l : List Nat} {i d : Nat} (h : i < l.length) : l.getD i d = l[i] := by
  rw [List.getD_eq_getElem?_getD, List.getElem?_eq_getElem h]
  rfl
theorem idx_at {t : List Nat} (nd : t.Nodup) {s : Nat} (h : s < t.length) : t.idxOf t[s] = s := by
  have h1 : t.idxOf t[s] < t.length := List.idxOf_lt_length_iff.mpr (List.getElem_mem h)
  have h2 : t[t.idxOf t[s]] = t[s] := List.getElem_idxOf h1
  exact (List.getElem_inj nd).mp h2
theorem readT_len (t : List Nat) : (readT t (ms.map (fit F))).length = ms.length := by simp [readT]
theorem readT_at {t : List Nat} {j : Nat} (hj : j < ms.length) : (readT t (ms.map (fit F)))[j]'(by rw [readT_len]; exact hj) = if j ∈ t then t.idxOf j else (fit F ms[j]).headD 0 := by
  simp [readT]
theorem head_mem {l : List Nat} (h : l ≠ []) : l.headD 0 ∈ l := by
  cases l with
  | nil => exact absurd rfl h
  | cons x l => simp
/-- a told reading is a fit state -/
theorem read_fit {t : List Nat} (h : Told n F ms t) (h0 : [] ∉ ms.map (fit F)) {j : Nat} (hj : j < ms.length) : (readT t (ms.map (fit F))).getD j 0 ∈ fit F ms[j] := by
  rw [getD_at (by rw [readT_len]; exact hj), readT_at hj]
  by_cases c : j ∈ t
  · rw [if_pos c]
    have h1 : t.idxOf j < t.length := List.idxOf_lt_length_iff.mpr c
    have h2 := h.own _ h1
    rw [List.getElem_idxOf h1] at h2
    exact (mem_own.mp h2).2
  · rw [if_neg c]
    exact head_mem fun z => h0 (by rw [← z]; exact List.mem_map_of_mem (List.getElem_mem hj))
theorem read_back {t : List Nat} (h : Told n F ms t) {s : Nat} (hs : s < t.length) : (readT t (ms.map (fit F))).getD t[s] 0 = s := by
  obtain ⟨h1, _⟩ := mem_own.mp (h.own s hs)
  rw [getD_at (by rw [readT_len]; exact h1), readT_at h1, if_pos (List.getElem_mem hs), idx_at h.nd hs]
theorem zip_idx {t : List Nat} {p : Nat × Nat} (h : p ∈ t.zipIdx) : ∃ hs : p.2 < t.length, t[p.2] = p.1 := by
  obtain ⟨a, i⟩ := p
  exact List.getElem?_eq_some_iff.mp (List.mem_zipIdx_iff_getElem?.mp h)
theorem way_fine {t : List Nat} (g : Msgs n ms) (h : Told n F ms t) (h0 : [] ∉ ms.map (fit F)) : WayFine n F ms t (readT t (ms.map (fit F))) := by
  have ta : ∀ (s : Nat) (hs : s < t.length), ∃ ha : t[s] < ms.length, s ∈ fit F ms[t[s]] := fun s hs => mem_own.mp (h.own s hs)
  have lt : ∀ {s : Nat}, s < t.length → s < n := fun hs => by have := h.len; omega
  refine { tl := h.len, rl := readT_len t, ta := fun a ha => ?_, ra := fun s hs => ?_, inT := fun p hp => ?_, inR := fun p hp => ?_, nd := h.nd, back := fun p hp => ?_, calm := fun s hs p hp hm => ?_ }
  · obtain ⟨s, hs, rfl⟩ := List.mem_iff_getElem.mp ha
    exact (ta s hs).1
  · obtain ⟨j, hj, rfl⟩ := List.mem_iff_getElem.mp hs
    have hj2 : j < ms.length := by rw [readT_len] at hj; exact hj
    have := read_fit h h0 hj2
    rw [getD_at hj] at this
    exact (g.ok _ (List.getElem_mem hj2)).lt _ (mem_fit.mp this).1
  · obtain ⟨hs, e⟩ := zip_idx hp
    obtain ⟨ha, hf⟩ := ta p.2 hs
    have := (mem_fit.mp hf).1
    rw [List.getD_eq_getElem?_getD, ← e, List.getElem?_eq_getElem ha]
    exact this
  · obtain ⟨j, hj, rfl⟩ := List.mem_iff_getElem.mp hp
    have hj2 : j < ms.length := by simp at hj; omega
    have := read_fit h h0 hj2
    rw [getD_at (by rw [readT_len]; exact hj2)] at this
    simpa using (mem_fit.mp this).1
  · obtain ⟨hs, e⟩ := zip_idx hp
    rw [← e]
    exact read_back h hs
  · obtain ⟨m, j⟩ := p
    obtain ⟨hj, e⟩ := List.getElem?_eq_some_iff.mp (List.mem_zipIdx_iff_getElem?.mp hp)
    rw [getD_at hs, read_back h hs]
    have := read_fit h h0 hj
    have hm : s ∈ ms[j]'hj := by
      have e : ms[j]'hj = m := e
      rw [e]; exact hm
    exact (mem_fit.mp this).2 s hm
/-! full messages: rings and ways -/
theorem fit_one (s : Nat) : fit F [s] = [s] := by
  simp [fit]
/-- the single states' own messages -/
theorem single_full (h1 : 1 ≤ n) (h4 : n ≤ 4) : ∃ t : List Nat, t.length = n ∧ t.Nodup ∧ ∀ (s : Nat) (h : s < t.length), ∃ ha : t[s] < (fullL n).length, (fullL n)[t[s]] = [s] := by
  obtain rfl | rfl | rfl | rfl : n = 1 ∨ n = 2 ∨ n = 3 ∨ n = 4 := by omega
  · refine ⟨[0], rfl, by decide, fun s h => ?_⟩
    obtain rfl : s = 0 := by simpa using h
    exact ⟨by simp [fullL], rfl⟩
  · refine ⟨[0, 2], rfl, by decide, fun s h => ?_⟩
    have h : s < 2 := h
    obtain rfl | rfl : s = 0 ∨ s = 1 := by omega
    · exact ⟨by simp [fullL], rfl⟩
    · exact ⟨by simp [fullL], rfl⟩
  · refine ⟨[0, 4, 6], rfl, by decide, fun s h => ?_⟩
    have h : s < 3 := h
    obtain rfl | rfl | rfl : s = 0 ∨ s = 1 ∨ s = 2 := by omega
    · exact ⟨by simp [fullL], rfl⟩
    · exact ⟨by simp [fullL], rfl⟩
    · exact ⟨by simp [fullL], rfl⟩
  · refine ⟨[0, 8, 12, 14], rfl, by decide, fun s h => ?_⟩
    have h : s < 4 := h
    obtain rfl | rfl | rfl | rfl : s = 0 ∨ s = 1 ∨ s = 2 ∨ s = 3 := by omega
    · exact ⟨by simp [fullL], rfl⟩
    · exact ⟨by simp [fullL], rfl⟩
    · exact ⟨by simp [fullL], rfl⟩
    · exact ⟨by simp [fullL], rfl⟩
theorem full_told (h1 : 1 ≤ n) (h4 : n ≤ 4) : ∃ t, dfs (ownL n F (fullL n)) [] = some t := by
  obtain ⟨t, a, b, c⟩ := single_full h1 h4
  cases q : dfs (ownL n F (fullL n)) [] with
  | some u => exact ⟨u, rfl⟩
  | none =>
    refine (told_dfs (t := t) ⟨a, b, fun s hs => ?_⟩ q).elim
    obtain ⟨ha, e⟩ := c s hs
    exact mem_own.mpr ⟨ha, by rw [e, fit_one]; simp⟩
/-! messages as they are made -/
theorem full_strict (h1 : 1 ≤ n) (h4 : n ≤ 4) : (fullL n).Pairwise fun a b => ltL a b = true := four (p := fun n => (fullL n).Pairwise fun a b => ltL a b = true) h1 h4 (by decide +kernel) (by decide +kernel) (by decide +kernel) (by decide +kernel)
theorem asc_of : ∀ {l : List (List Nat)}, l.Pairwise (fun a b => ltL a b = true) → ascL l = true
  | [], _ => rfl
  | [_], _ => rfl
  | a :: b :: l, h => by
    obtain ⟨h1, h2⟩ := List.pairwise_cons.mp h
    have ih := asc_of h2
    unfold ascL at ih ⊢
    simp only [List.tail_cons, List.zip_cons_cons, List.all_cons] at ih ⊢
    rw [h1 b List.mem_cons_self]
    simpa using ih
theorem full_len' (h1 : 1 ≤ n) (h4 : n ≤ 4) : (fullL n).length + 1 = 2 ^ n ∧ (fullL n).length ≤ 15 := four (p := fun n => (fullL n).length + 1 = 2 ^ n ∧ (fullL n).length ≤ 15) h1 h4 (by decide) (by decide) (by decide) (by decide)
theorem fine_of (h1 : 1 ≤ n) (h4 : n ≤ 4) (p : List Nat → Bool) (cov : ∀ s, s < n → ∃ m ∈ (fullL n).filter p, s ∈ m) : Fine n ((fullL n).filter p) := by
  have sub := List.filter_sublist (p := p) (l := fullL n)
  have l15 : ((fullL n).filter p).length ≤ 15 := Nat.le_trans (List.length_filter_le _ _) (full_len' h1 h4).2
  have mem : ∀ m ∈ (fullL n).filter p, m ∈ fullL n := fun m hm => sub.subset hm
  refine { ok := fun m hm => ⟨(full_lt h1 h4 m (mem m hm)).1, Nat.le_trans (full_lt h1 h4 m (mem m hm)).2 (by decide)⟩, len := by omega, nle := by omega, n4 := h4, l15 := l15, n1 := h1, one := ?_, ne := fun m hm => (full_nodup h1 h4 m (mem m hm)).2.1, up := fun m hm => (full_nodup h1 h4 m (mem m hm)).2.2, ups := asc_of ((full_strict h1 h4).sublist sub), cov := fun s hs => ?_ }
  · obtain ⟨m, hm, _⟩ := cov 0 (by omega)
    exact List.length_pos_of_mem hm
  · obtain ⟨m, hm, h⟩ := cov s hs
    exact List.any_eq_true.mpr ⟨m, hm, by simpa using h⟩
theorem full_all (h1 : 1 ≤ n) (h4 : n ≤ 4) {p : List Nat → Bool} (h : ((fullL n).filter p).length + 1 = 2 ^ n) : (fullL n).filter p = fullL n := by
  refine List.Sublist.eq_of_length List.filter_sublist ?_
  have := (full_len' h1 h4).1
  omega
theorem full_cov (h1 : 1 ≤ n) (h4 : n ≤ 4) : ∀ s, s < n → ∃ m ∈ fullL n, s ∈ m := four (p := fun n => ∀ s, s < n → ∃ m ∈ fullL n, s ∈ m) h1 h4 (by decide +kernel) (by decide +kernel) (by decide +kernel) (by decide +kernel)
theorem filter_true (l : List (List Nat)) : l.filter (fun _ => true) = l := by simp
/-- sorted drawn messages -/
theorem drawn_perm (h1 : 1 ≤ n) (h4 : n ≤ 4) {found : List (List Nat)} (nd : found.Nodup) (sub : ∀ m ∈ found, m ∈ fullL n) : ((fullL n).filter fun m => decide (m ∈ found)).Perm found := by
  have nf : (fullL n).Nodup := four (p := fun n => (fullL n).Nodup) h1 h4 (by decide +kernel) (by decide +kernel) (by decide +kernel) (by decide +kernel)
  refine (List.perm_ext_iff_of_nodup (nf.filter _) nd).mpr fun m => ?_
  rw [List.mem_filter]
  simp only [decide_eq_true_eq]
  exact ⟨fun h => h.2, fun h => ⟨sub m h, h⟩⟩
end
end Lw

set_option Elab.async false
set_option linter.all false
set_option maxRecDepth 100000
set_option maxHeartbeats 4000000
namespace Lw
open PySem PySem.Spec L2 Ev
/-- one of a list -/
theorem pick_run {α : Type} {a b : Int} (f : α → PyData) (xs : List α) (p : Pot a b) (h0 : xs ≠ []) (hl : xs.length ≤ 1000) : ∃ (x : α) (a' b' : Int), x ∈ xs ∧ Pot a' b' ∧ RetP m__law_pick [.ow true (potL a b), .vl (.list (xs.map f))] ⟨f x, false⟩ (potL a' b') := by
  have l1 : 1 ≤ xs.length := by
    cases xs with
    | nil => exact absurd rfl h0
    | cons => simp
  obtain ⟨v, a', b', hv, hp, hr⟩ := k_draw (i := 0) (c := true) (e := [.ow true (potL a b), .vl (.list (xs.map f))]) p l1 hl rfl
  have hr : runPM 0 N__law_draw.length ps__law_draw.length m__law_draw [nD xs.length] [.ow true (potL a b), .vl (.list (xs.map f))] = some (.ok ⟨nD v, false⟩ [.ow true (potL a' b'), .vl (.list (xs.map f))]) := hr
  have hi : idxD (.list (xs.map f)) (nD v) = some ⟨f xs[v], false⟩ := by
    rw [idx_lst, atI_nat _ _ hv]
    rfl
  have hn : lenF [.list (xs.map f)] = some ⟨nD xs.length, false⟩ := by simp [lenF]
  refine ⟨xs[v], a', b', List.getElem_mem hv, hp, [.ow true (potL a' b'), .vl (.list (xs.map f))], ?_, rfl⟩
  generalize f xs[v] = y at *
  generalize PyData.list (xs.map f) = z at *
  generalize potL a b = q at *
  generalize potL a' b' = q' at *
  rw [m__law_pick]
  exact run_thenR (run_ret (by simp [hn, hr, hi]))
theorem k_pick {α : Type} {a b : Int} {i : Nat} {c : Bool} {e : En} (f : α → PyData) (xs : List α) (p : Pot a b) (h0 : xs ≠ []) (hl : xs.length ≤ 1000) (hi : e[i]? = some (.ow c (potL a b))) : ∃ (x : α) (a' b' : Int), x ∈ xs ∧ Pot a' b' ∧ runPM i N__law_pick.length ps__law_pick.length m__law_pick [.list (xs.map f)] e = some (.ok ⟨f x, false⟩ (e.set i (.ow c (potL a' b')))) := by
  obtain ⟨x, a', b', h1, h2, h3⟩ := pick_run f xs p h0 hl
  exact ⟨x, a', b', h1, h2, runPM_eq hi rfl rfl h3⟩
/-! faces -/
def Bd (k : Int) (vs : List Int) : Prop := ∀ v ∈ vs, -k ≤ v ∧ v ≤ k
abbrev iD (vs : List Int) : PyData := .list (vs.map PyData.int)
theorem l_faces_0 {a b : Int} {n : Nat} (hn : n ≤ 100) (p : Pot a b) (x2 x3 x4 x5 x6 : Sl) : ∃ (vs : List Int) (a' b' : Int), vs.length = n ∧ Bd 3 vs ∧ Pot a' b' ∧
    c__law_faces_0 [.ow true (potL a b), .vl (nD n), x2, x3, x4, x5, x6, .un] = some (.ok ⟨iD vs, true⟩ [.ow true (potL a' b'), .vl (nD n), x2, x3, x4, x5, x6, .un]) := by
  have := lc_inv (own := [7]) (mi := rng1M (readO 1)) (step := turnM (nameM 7) (pure true) (op2 subD (toO (callPM 0 N__law_draw.length ps__law_draw.length m__law_draw (do let d ← valM (pure ⟨.int 7, false⟩); let ds ← (pure []); pure (d :: ds)))) (toO (pure ⟨.int 3, false⟩)))) (e := [.ow true (potL a b), .vl (nD n), x2, x3, x4, x5, x6, .un]) nD (fun s : Int × Int => [.ow true (potL s.1 s.2), .vl (nD n), x2, x3, x4, x5, x6, .un]) (fun s rem acc => Pot s.1 s.2 ∧ ∃ vs : List Int, acc = vs.map PyData.int ∧ vs.length + rem.length = n ∧ Bd 3 vs) (List.range n) (a, b) (by simp [rng1M, rngD_nat hn]) ⟨p, [], rfl, by simp, by intro v hv; cases hv⟩ (fun x rem s acc ⟨hp, vs, h1, h2, h3⟩ => by
      obtain ⟨v, a', b', hv, hp', hr⟩ := k_draw (i := 0) (c := true) (k := 7) (e := [.ow true (potL s.1 s.2), .vl (nD n), x2, x3, x4, x5, x6, .vl (nD x)]) hp (by decide) (by decide) rfl
      have hr : runPM 0 N__law_draw.length ps__law_draw.length m__law_draw [.int 7] [.ow true (potL s.1 s.2), .vl (nD n), x2, x3, x4, x5, x6, .vl (nD x)] = some (.ok ⟨nD v, false⟩ [.ow true (potL a' b'), .vl (nD n), x2, x3, x4, x5, x6, .vl (nD x)]) := hr
      have hs : subD (nD v) (.int 3) = some ⟨.int ((v : Int) - 3), false⟩ := rfl
      refine ⟨some (.int ((v : Int) - 3)), (a', b'), [.ow true (potL a' b'), .vl (nD n), x2, x3, x4, x5, x6, .vl (nD x)], ?_, rfl, hp', vs ++ [(v : Int) - 3], by simp [h1], by simp at h2 ⊢; omega, ?_⟩
      · generalize potL s.1 s.2 = q at *
        generalize potL a' b' = q' at *
        generalize (v : Int) - 3 = w at *
        generalize nD v = y at *
        simp [turnM, hr, hs]
      · intro w hw
        rcases List.mem_append.mp hw with hw | hw
        · exact h3 w hw
        · have : w = (v : Int) - 3 := by simpa using hw
          omega) (by simp; exact Nat.le_trans hn (by decide)) (fun s => rfl)
  obtain ⟨s, ds, ⟨hp, vs, h1, h2, h3⟩, hr⟩ := this
  subst h1
  exact ⟨vs, s.1, s.2, by simpa using h2, h3, hp, hr⟩
theorem l_faces_1 {a b : Int} {n k : Nat} (hn : n ≤ 100) (hk : k ≤ 4) (p : Pot a b) (x2 x4 x5 x6 : Sl) : ∃ (vs : List Int) (a' b' : Int), vs.length = n ∧ Bd 4 vs ∧ Pot a' b' ∧
    c__law_faces_1 [.ow true (potL a b), .vl (nD n), x2, .vl (nD k), x4, x5, x6, .un] = some (.ok ⟨iD vs, true⟩ [.ow true (potL a' b'), .vl (nD n), x2, .vl (nD k), x4, x5, x6, .un]) := by
  have := lc_inv (own := [7]) (mi := rng1M (readO 1)) (step := turnM (nameM 7) (pure true) (op2 subD (toO (callPM 0 N__law_draw.length ps__law_draw.length m__law_draw (do let d ← valM (op2 addD (toO (op2 mulD (toO (pure ⟨.int 2, false⟩)) (readO 3))) (toO (pure ⟨.int 1, false⟩))); let ds ← (pure []); pure (d :: ds)))) (readO 3))) (e := [.ow true (potL a b), .vl (nD n), x2, .vl (nD k), x4, x5, x6, .un]) nD (fun s : Int × Int => [.ow true (potL s.1 s.2), .vl (nD n), x2, .vl (nD k), x4, x5, x6, .un]) (fun s rem acc => Pot s.1 s.2 ∧ ∃ vs : List Int, acc = vs.map PyData.int ∧ vs.length + rem.length = n ∧ Bd 4 vs) (List.range n) (a, b) (by simp [rng1M, rngD_nat hn]) ⟨p, [], rfl, by simp, by intro v hv; cases hv⟩ (fun x rem s acc ⟨hp, vs, h1, h2, h3⟩ => by
      obtain ⟨v, a', b', hv, hp', hr⟩ := k_draw (i := 0) (c := true) (k := 2 * k + 1) (e := [.ow true (potL s.1 s.2), .vl (nD n), x2, .vl (nD k), x4, x5, x6, .vl (nD x)]) hp (by omega) (by omega) rfl
      have hr : runPM 0 N__law_draw.length ps__law_draw.length m__law_draw [nD (2 * k + 1)] [.ow true (potL s.1 s.2), .vl (nD n), x2, .vl (nD k), x4, x5, x6, .vl (nD x)] = some (.ok ⟨nD v, false⟩ [.ow true (potL a' b'), .vl (nD n), x2, .vl (nD k), x4, x5, x6, .vl (nD x)]) := hr
      have hs : subD (nD v) (nD k) = some ⟨.int ((v : Int) - (k : Int)), false⟩ := rfl
      have hm : mulD (.int 2) (nD k) = some ⟨nD (2 * k), false⟩ := by
        have := mul_ok (x := 2) (y := (k : Int)) (by decide) (by decide) (by omega) (by omega)
        rw [this]
        simp
      have ha : addD (nD (2 * k)) (.int 1) = some ⟨nD (2 * k + 1), false⟩ := add_ok _ _
      refine ⟨some (.int ((v : Int) - (k : Int))), (a', b'), [.ow true (potL a' b'), .vl (nD n), x2, .vl (nD k), x4, x5, x6, .vl (nD x)], ?_, rfl, hp', vs ++ [(v : Int) - (k : Int)], by simp [h1], by simp at h2 ⊢; omega, ?_⟩
      · generalize potL s.1 s.2 = q at *
        generalize potL a' b' = q' at *
        generalize (v : Int) - (k : Int) = w at *
        generalize nD v = y at *
        generalize nD (2 * k + 1) = y2 at *
        generalize nD (2 * k) = y3 at *
        simp [turnM, hm, ha, hr, hs]
      · intro w hw
        rcases List.mem_append.mp hw with hw | hw
        · exact h3 w hw
        · have : w = (v : Int) - (k : Int) := by simpa using hw
          omega) (by simp; exact Nat.le_trans hn (by decide)) (fun s => rfl)
  obtain ⟨s, ds, ⟨hp, vs, h1, h2, h3⟩, hr⟩ := this
  subst h1
  exact ⟨vs, s.1, s.2, by simpa using h2, h3, hp, hr⟩
end Lw

set_option Elab.async false
set_option linter.all false
set_option maxRecDepth 100000
set_option maxHeartbeats 4000000
namespace Lw
open PySem PySem.Spec L2 Ev
theorem range_getD {α : Type} (vs : List α) (d : α) : (List.range vs.length).map (fun j => vs.getD j d) = vs := by
  refine List.ext_getElem (by simp) fun i h1 h2 => ?_
  rw [List.getElem_map, List.getElem_range, List.getD_eq_getElem?_getD, List.getElem?_eq_getElem h2]
  rfl
theorem rowD_of {vs : List Int} {n : Nat} (h : vs.length = n) : rowD n (fun j => vs.getD j 0) = .tuple (vs.map PyData.int) := by
  subst h
  show PyData.tuple ((List.range vs.length).map fun j => .int (vs.getD j 0)) = _
  have := congrArg (List.map PyData.int) (range_getD vs 0)
  rw [List.map_map] at this
  exact congrArg PyData.tuple this
/-- rows that are written -/
def rowsF (n : Nat) (F : Nat → Nat → Int) : List (List PyData) := (List.range n).map fun i => (List.range n).map fun j => PyData.int (F i j)
def updF (F : Nat → Nat → Int) (x y : Nat) (v : Int) : Nat → Nat → Int := fun i j => if i = x ∧ j = y then v else F i j
theorem set_range {α : Type} (f : Nat → α) (n x : Nat) (v : α) : ((List.range n).map f).set x v = (List.range n).map fun i => if i = x then v else f i := by
  refine List.ext_getElem (by simp) fun i h1 h2 => ?_
  rw [List.getElem_set]
  simp only [List.getElem_map, List.getElem_range]
  by_cases e : x = i
  · subst e; simp
  · have : ¬ i = x := fun w => e w.symm
    simp [e, this]
theorem ix_nat {l i : Nat} (h : i < l) : ixN l (i : Int) = some i := by
  unfold ixN
  rw [if_pos (by omega), if_pos (by omega)]
  simp
section
variable {n x y : Nat} {F : Nat → Nat → Int} {v : Int}
theorem rowAt_F (hx : x < n) : rowAt (rowsF n F) (nD x) = some x := by
  show (ixN (rowsF n F).length (x : Int)) = some x
  exact ix_nat (by simpa [rowsF] using hx)
theorem putAt_F (hx : x < n) (hy : y < n) : putAt (rowsF n F) x (nD y) (.int v) = some (rowsF n (updF F x y v)) := by
  have h1 : (rowsF n F)[x]? = some ((List.range n).map fun j => PyData.int (F x j)) := by simp [rowsF, hx]
  show ((rowsF n F)[x]?).bind (fun r => (ixN r.length (y : Int)).map fun y => (rowsF n F).set x (r.set y (.int v))) = _
  rw [h1, Option.bind_some, ix_nat (by simpa using hy), Option.map_some]
  congr 1
  unfold rowsF
  rw [set_range]
  refine List.map_congr_left fun i _ => ?_
  by_cases e : i = x
  · subst e
    rw [if_pos rfl, set_range]
    refine List.map_congr_left fun j _ => ?_
    by_cases e2 : j = y
    · simp [updF, e2]
    · simp [updF, e2]
  · rw [if_neg e]
    refine List.map_congr_left fun j _ => ?_
    simp [updF, e]
theorem small_upd (h : Small n F) (h1 : -99 ≤ v) (h2 : v ≤ 99) : Small n (updF F x y v) := fun i j hi hj => by
  unfold updF
  split
  · exact ⟨h1, h2⟩
  · exact h i j hi hj
end
/-- the ring written -/
def ringM : List (List PyData) → M (List (List PyData)) := nthenM (nsetM 5 (op2 addD (readO 3) (toO (pure ⟨.int 1, false⟩))) (readO 6) (readO 6)) (nthenM (nsetM 5 (op2 addD (toO (op2 addD (readO 3) (toO (pure ⟨.int 1, false⟩)))) (toO (callPM 0 N__law_draw.length ps__law_draw.length m__law_draw (do let d ← valM (pure ⟨.int 2, false⟩); let ds ← (pure []); pure (d :: ds))))) (readO 6) (toO (op2 modD (toO (op1L intF (toO (op2 addD (readO 6) (toO (pure ⟨.int 1, false⟩)))))) (readO 1)))) (nnilM))
theorem ring_step {a b : Int} {n k x : Nat} {F : Nat → Nat → Int} (n1 : 1 ≤ n) (hk : k ≤ 4) (p : Pot a b) (hf : Small n F) (hx : x < n) (w : Nat) (x4 x6 : Sl) : ∃ (F' : Nat → Nat → Int) (a' b' : Int), Pot a' b' ∧ Small n F' ∧
    (do keepM 5 (nameM 6 (nD x)); ringM (rowsF n F)) [.ow true (potL a b), .vl (nD n), .vl (nD w), .vl (nD k), x4, .un, x6, .un] = some (.ok (rowsF n F') [.ow true (potL a' b'), .vl (nD n), .vl (nD w), .vl (nD k), x4, .un, .vl (nD x), .un]) := by
  obtain ⟨v, a', b', hv, hp', hr⟩ := k_draw (i := 0) (c := true) (k := 2) (e := [.ow true (potL a b), .vl (nD n), .vl (nD w), .vl (nD k), x4, .un, .vl (nD x), .un]) p (by decide) (by decide) rfl
  have hr : runPM 0 N__law_draw.length ps__law_draw.length m__law_draw [.int 2] [.ow true (potL a b), .vl (nD n), .vl (nD w), .vl (nD k), x4, .un, .vl (nD x), .un] = some (.ok ⟨nD v, false⟩ [.ow true (potL a' b'), .vl (nD n), .vl (nD w), .vl (nD k), x4, .un, .vl (nD x), .un]) := hr
  have hm : (((x : Int) + 1).fmod (n : Int)).toNat < n := by
    have h1 := Int.fmod_nonneg_of_pos ((x : Int) + 1) (b := (n : Int)) (by omega)
    have h2 := Int.fmod_lt_of_pos ((x : Int) + 1) (b := (n : Int)) (by omega)
    omega
  have o1 : modD (.int ((x : Int) + 1)) (nD n) = some ⟨nD (((x : Int) + 1).fmod (n : Int)).toNat, false⟩ := by
    rw [mod_ok (by omega)]
    have h1 := Int.fmod_nonneg_of_pos ((x : Int) + 1) (b := (n : Int)) (by omega)
    show some (⟨.int (((x : Int) + 1).fmod (n : Int)), false⟩ : RV) = some ⟨.int (((((x : Int) + 1).fmod (n : Int)).toNat : Nat) : Int), false⟩
    rw [Int.toNat_of_nonneg h1]
  generalize (((x : Int) + 1).fmod (n : Int)).toNat = y at *
  have a1 : addD (nD k) (.int 1) = some ⟨.int ((k : Int) + 1), false⟩ := rfl
  have a2 : addD (.int ((k : Int) + 1)) (nD v) = some ⟨.int ((k : Int) + 1 + v), false⟩ := rfl
  have a3 : addD (nD x) (.int 1) = some ⟨.int ((x : Int) + 1), false⟩ := rfl
  have i1 : intF [.int ((x : Int) + 1)] = some ⟨.int ((x : Int) + 1), false⟩ := rfl
  have f1 : Small n (updF F x x ((k : Int) + 1)) := small_upd hf (by omega) (by omega)
  have f2 : Small n (updF (updF F x x ((k : Int) + 1)) x y ((k : Int) + 1 + v)) := small_upd f1 (by omega) (by omega)
  have r1 := rowAt_F (F := F) hx
  have r2 := putAt_F (F := F) (v := (k : Int) + 1) hx hx
  have r3 := rowAt_F (F := updF F x x ((k : Int) + 1)) hx
  have r4 := putAt_F (F := updF F x x ((k : Int) + 1)) (v := (k : Int) + 1 + v) hx hm
  refine ⟨_, a', b', hp', f2, ?_⟩
  generalize updF (updF F x x ((k : Int) + 1)) x y ((k : Int) + 1 + v) = F2 at *
  generalize updF F x x ((k : Int) + 1) = F1 at *
  generalize (k : Int) + 1 + v = z1 at *
  generalize (k : Int) + 1 = z2 at *
  generalize (x : Int) + 1 = z3 at *
  generalize rowsF n F2 = R2 at *
  generalize rowsF n F1 = R1 at *
  generalize rowsF n F = R at *
  generalize potL a b = q at *
  generalize potL a' b' = q' at *
  have s0 : keepM 5 (nameM 6 (nD x)) [.ow true q, .vl (nD n), .vl (nD w), .vl (nD k), x4, .un, x6, .un] = some (.ok () [.ow true q, .vl (nD n), .vl (nD w), .vl (nD k), x4, .un, .vl (nD x), .un]) := run_keep (by simp) rfl
  have s1 := run_nset (i := 5) (mv := op2 addD (readO 3) (toO (pure ⟨.int 1, false⟩))) (mj := readO 6) (mk := readO 6) (e := [.ow true q, .vl (nD n), .vl (nD w), .vl (nD k), x4, .un, .vl (nD x), .un]) (e1 := [.ow true q, .vl (nD n), .vl (nD w), .vl (nD k), x4, .un, .vl (nD x), .un]) (e2 := [.ow true q, .vl (nD n), .vl (nD w), .vl (nD k), x4, .un, .vl (nD x), .un]) (e3 := [.ow true q, .vl (nD n), .vl (nD w), .vl (nD k), x4, .un, .vl (nD x), .un]) (r := ⟨.int z2, false⟩) (o := .vl (nD x)) (o2 := .vl (nD x)) (by simp [a1]) rfl (by simp) rfl (by simp) r1 (by simp) rfl (by simp) r2
  have s2 := run_nset (i := 5) (mv := op2 addD (toO (op2 addD (readO 3) (toO (pure ⟨.int 1, false⟩)))) (toO (callPM 0 N__law_draw.length ps__law_draw.length m__law_draw (do let d ← valM (pure ⟨.int 2, false⟩); let ds ← (pure []); pure (d :: ds))))) (mj := readO 6) (mk := toO (op2 modD (toO (op1L intF (toO (op2 addD (readO 6) (toO (pure ⟨.int 1, false⟩)))))) (readO 1))) (e := [.ow true q, .vl (nD n), .vl (nD w), .vl (nD k), x4, .un, .vl (nD x), .un]) (e1 := [.ow true q', .vl (nD n), .vl (nD w), .vl (nD k), x4, .un, .vl (nD x), .un]) (e2 := [.ow true q', .vl (nD n), .vl (nD w), .vl (nD k), x4, .un, .vl (nD x), .un]) (e3 := [.ow true q', .vl (nD n), .vl (nD w), .vl (nD k), x4, .un, .vl (nD x), .un]) (r := ⟨.int z1, false⟩) (o := .vl (nD x)) (o2 := .vl (nD y)) (by simp [a1, a2, hr]) rfl (by simp) rfl (by simp) r3 (by simp [a3, i1, o1]) rfl (by simp) r4
  rw [run_bind, s0, bndR_ok, ringM, run_nthen s1, run_nthen s2]
  rfl
end Lw

set_option Elab.async false
set_option linter.all false
set_option maxRecDepth 100000
set_option maxHeartbeats 4000000
namespace Lw
open PySem PySem.Spec L2 Ev
theorem getD_of {α : Type} {l : List α} {i : Nat} {d : α} (h : i < l.length) : l.getD i d = l[i] := by
  rw [List.getD_eq_getElem?_getD, List.getElem?_eq_getElem h]
  rfl
theorem rowsF_of {vss : List (List Int)} {n : Nat} (h : vss.length = n) (h2 : ∀ vs ∈ vss, vs.length = n) : vss.map (fun vs => vs.map PyData.int) = rowsF n (fun i j => (vss.getD i []).getD j 0) := by
  unfold rowsF
  refine List.ext_getElem (by simp [h]) fun i h3 h4 => ?_
  have hi : i < vss.length := by simpa using h3
  rw [List.getElem_map, List.getElem_map, List.getElem_range]
  simp only [getD_of hi]
  have hl := h2 _ (List.getElem_mem hi)
  refine List.ext_getElem (by simp [hl]) fun j h5 h6 => ?_
  have hj : j < vss[i].length := by simpa using h5
  rw [List.getElem_map, List.getElem_map, List.getElem_range, getD_of hj]
theorem small_of {vss : List (List Int)} {n : Nat} (h : vss.length = n) (h2 : ∀ vs ∈ vss, vs.length = n ∧ Bd 4 vs) : Small n (fun i j => (vss.getD i []).getD j 0) := fun i j hi hj => by
  have hi : i < vss.length := by omega
  simp only [getD_of hi]
  obtain ⟨l, b⟩ := h2 _ (List.getElem_mem hi)
  have hj : j < vss[i].length := by omega
  rw [getD_of hj]
  have := b _ (List.getElem_mem hj)
  omega
/-- the rows drawn -/
theorem rows_drawn {a b : Int} {n k w : Nat} (hn : n ≤ 100) (hk : k ≤ 4) (p : Pot a b) : ∃ (F : Nat → Nat → Int) (a' b' : Int), Small n F ∧ Pot a' b' ∧
    ∃ ds, lcM [6] (rng1M (readO 1)) (turnN (nameM 6) c__law_faces_1) [.ow true (potL a b), .vl (nD n), .vl (nD w), .vl (nD k), .un, .un, .un, .un] = some (.ok ⟨.list ds, true⟩ [.ow true (potL a' b'), .vl (nD n), .vl (nD w), .vl (nD k), .un, .un, .un, .un]) ∧ rowsD (.list ds) = some (rowsF n F) := by
  have := lc_inv (own := [6]) (mi := rng1M (readO 1)) (step := turnN (nameM 6) c__law_faces_1) (e := [.ow true (potL a b), .vl (nD n), .vl (nD w), .vl (nD k), .un, .un, .un, .un]) nD (fun s : Int × Int => [.ow true (potL s.1 s.2), .vl (nD n), .vl (nD w), .vl (nD k), .un, .un, .un, .un]) (fun s rem acc => Pot s.1 s.2 ∧ ∃ vss : List (List Int), acc = vss.map iD ∧ vss.length + rem.length = n ∧ ∀ vs ∈ vss, vs.length = n ∧ Bd 4 vs) (List.range n) (a, b) (by simp [rng1M, rngD_nat hn]) ⟨p, [], rfl, by simp, by intro v hv; cases hv⟩ (fun x rem s acc ⟨hp, vss, h1, h2, h3⟩ => by
      obtain ⟨vs, a', b', q1, q2, hp', hr⟩ := l_faces_1 (n := n) hn hk hp (.vl (nD w)) .un .un (.vl (nD x))
      refine ⟨some (iD vs), (a', b'), [.ow true (potL a' b'), .vl (nD n), .vl (nD w), .vl (nD k), .un, .un, .vl (nD x), .un], ?_, rfl, hp', vss ++ [vs], by simp [h1], by simp at h2 ⊢; omega, ?_⟩
      · have f1 : freshL ⟨iD vs, true⟩ = some (iD vs) := rfl
        generalize potL s.1 s.2 = q at *
        generalize potL a' b' = q' at *
        generalize iD vs = y at *
        simp [turnN, hr, f1]
      · intro w hw
        rcases List.mem_append.mp hw with hw | hw
        · exact h3 w hw
        · have : w = vs := by simpa using hw
          subst this
          exact ⟨q1, q2⟩) (by simp; exact Nat.le_trans hn (by decide)) (fun s => rfl)
  obtain ⟨s, ds, ⟨hp, vss, h1, h2, h3⟩, hr⟩ := this
  have h2 : vss.length = n := by simpa using h2
  refine ⟨fun i j => (vss.getD i []).getD j 0, s.1, s.2, small_of h2 h3, hp, ds, hr, ?_⟩
  rw [← rowsF_of h2 fun vs hv => (h3 vs hv).1, h1]
  show rowsOf (vss.map iD) = _
  have : vss.map iD = (vss.map fun vs => vs.map PyData.int).map PyData.list := by simp [iD]
  rw [this, rowsOf_map]
/-- the ring written, or not -/
theorem rows_ring {a b : Int} {n k w : Nat} {F : Nat → Nat → Int} (n1 : 1 ≤ n) (hn : n ≤ 100) (hk : k ≤ 4) (p : Pot a b) (hf : Small n F) : ∃ (F' : Nat → Nat → Int) (a' b' : Int) (x6 : Sl), Small n F' ∧ Pot a' b' ∧
    noX ((nifM 5 (asB (op2 (cmpD .eq) (readO 2) (toO (pure ⟨.int 1, false⟩)))) (nthenM (nforM 5 (rng1M (readO 1)) (nameM 6) ringM) (nnilM)) (nnilM)) (rowsF n F)) [.ow true (potL a b), .vl (nD n), .vl (nD w), .vl (nD k), .un, .un, .un, .un] = some (.ok (rowsF n F') [.ow true (potL a' b'), .vl (nD n), .vl (nD w), .vl (nD k), .un, .un, x6, .un]) := by
  have c1 : (asB (op2 (cmpD .eq) (readO 2) (toO (pure ⟨.int 1, false⟩)))) [.ow true (potL a b), .vl (nD n), .vl (nD w), .vl (nD k), .un, .un, .un, .un] = some (.ok (decide ((w : Int) = 1)) [.ow true (potL a b), .vl (nD n), .vl (nD w), .vl (nD k), .un, .un, .un, .un]) := by
    generalize potL a b = q at *
    simp
  by_cases hw : (w : Int) = 1
  · rw [decide_eq_true hw] at c1
    have lp := nfor_inv (step := fun d rows => do keepM 5 (nameM 6 d); ringM rows) nD (fun s : (Int × Int) × (Nat → Nat → Int) × Sl => [.ow true (potL s.1.1 s.1.2), .vl (nD n), .vl (nD w), .vl (nD k), .un, .un, s.2.2, .un]) (fun s => rowsF n s.2.1) (fun s rem => Pot s.1.1 s.1.2 ∧ Small n s.2.1 ∧ ∀ x ∈ rem, x < n) (fun x rem s ⟨hp, hs, hr⟩ => by
      obtain ⟨F', a', b', h1, h2, h3⟩ := ring_step n1 hk hp hs (hr x List.mem_cons_self) w .un s.2.2
      exact ⟨((a', b'), F', .vl (nD x)), h3, h1, h2, fun y hy => hr y (List.mem_cons_of_mem _ hy)⟩) (List.range n) ((a, b), F, .un) ⟨p, hf, fun x hx => List.mem_range.mp hx⟩
    obtain ⟨s, h1, hp, hs, _⟩ := lp
    refine ⟨s.2.1, s.1.1, s.1.2, s.2.2, hs, hp, run_noX ?_⟩
    rw [run_nif c1 rfl, if_pos rfl]
    have m0 : rng1M (readO 1) [.ow true (potL a b), .vl (nD n), .vl (nD w), .vl (nD k), .un, .un, .un, .un] = some (.ok ((List.range n).map nD) [.ow true (potL a b), .vl (nD n), .vl (nD w), .vl (nD k), .un, .un, .un, .un]) := by simp [rng1M, rngD_nat hn]
    rw [run_nthen (run_nfor m0 rfl h1)]
    rfl
  · rw [decide_eq_false hw] at c1
    refine ⟨F, a, b, .un, hf, p, run_noX ?_⟩
    rw [run_nif c1 rfl, if_neg (by simp)]
    rfl
theorem l_faces_2 {n : Nat} {F : Nat → Nat → Int} (hn : n ≤ 100) (x0 x1 x2 x3 x4 x6 x7 : Sl) : c__law_faces_2 [x0, x1, x2, x3, x4, .vl (.list ((rowsF n F).map PyData.list)), x6, x7] = some (.ok ⟨.list ((List.range n).map fun i => rowD n (F i)), true⟩ [x0, x1, x2, x3, x4, .vl (.list ((rowsF n F).map PyData.list)), x6, x7]) := by
  have e : (rowsF n F).map PyData.list = (List.range n).map fun i => PyData.list ((List.range n).map fun j => PyData.int (F i j)) := by simp [rowsF]
  rw [e, c__law_faces_2, lc_t (fun i => PyData.list ((List.range n).map fun j => PyData.int (F i j))) (fun i => rowD n (F i)) (fun i => some i) (xs := List.range n)]
  · simp
  · have it : itemsOf (PyData.list ((List.range n).map fun i => PyData.list ((List.range n).map fun j => PyData.int (F i j)))) = some ((List.range n).map fun i => PyData.list ((List.range n).map fun j => PyData.int (F i j))) := rfl
    generalize PyData.list ((List.range n).map fun i => PyData.list ((List.range n).map fun j => PyData.int (F i j))) = z at *
    simp [seqM, it]
  · intro i hi
    have t1 : tupleF [PyData.list ((List.range n).map fun j => PyData.int (F i j))] = some ⟨rowD n (F i), false⟩ := rfl
    refine ⟨[x0, x1, x2, x3, .vl (PyData.list ((List.range n).map fun j => PyData.int (F i j))), .vl (.list ((List.range n).map fun i => PyData.list ((List.range n).map fun j => PyData.int (F i j)))), x6, x7], ?_, by simp⟩
    generalize PyData.list ((List.range n).map fun j => PyData.int (F i j)) = z at *
    simp [turnM, t1]
  · exact big (by simpa using hn)
  · simp
/-- faces are drawn -/
theorem faces_run {a b : Int} {n : Nat} (n1 : 1 ≤ n) (n4 : n ≤ 4) (p : Pot a b) : ∃ (F : Nat → Nat → Int) (a' b' : Int), Small n F ∧ Pot a' b' ∧ RetP m__law_faces [.ow true (potL a b), .vl (nD n), .un, .un, .un, .un, .un, .un] ⟨facesD n F, false⟩ (potL a' b') := by
  have hn : n ≤ 100 := by omega
  obtain ⟨w, a1, b1, hw, p1, r1⟩ := k_draw (i := 0) (c := true) (k := 4) (e := [.ow true (potL a b), .vl (nD n), .un, .un, .un, .un, .un, .un]) p (by decide) (by decide) rfl
  have r1 : runPM 0 N__law_draw.length ps__law_draw.length m__law_draw [.int 4] [.ow true (potL a b), .vl (nD n), .un, .un, .un, .un, .un, .un] = some (.ok ⟨nD w, false⟩ [.ow true (potL a1 b1), .vl (nD n), .un, .un, .un, .un, .un, .un]) := r1
  obtain ⟨k, a2, b2, hk, p2, r2⟩ := k_pick (i := 0) (c := true) (e := [.ow true (potL a1 b1), .vl (nD n), .un, .un, .un, .un, .un, .un]) nD [1, 2, 4] p1 (by simp) (by simp) rfl
  have r2 : runPM 0 N__law_pick.length ps__law_pick.length m__law_pick [.list [.int 1, .int 2, .int 4]] [.ow true (potL a1 b1), .vl (nD n), .un, .un, .un, .un, .un, .un] = some (.ok ⟨nD k, false⟩ [.ow true (potL a2 b2), .vl (nD n), .un, .un, .un, .un, .un, .un]) := r2
  have hk : k ≤ 4 := by
    have : k = 1 ∨ k = 2 ∨ k = 4 := by simpa using hk
    omega
  have s1 : bindM (tupM (do let d ← valM (callPM 0 N__law_draw.length ps__law_draw.length m__law_draw (do let d ← valM (pure ⟨.int 4, false⟩); let ds ← (pure []); pure (d :: ds))); let ds ← (do let d ← valM (callPM 0 N__law_pick.length ps__law_pick.length m__law_pick (do let d ← valM (lstM (do let d ← valM (pure ⟨.int 1, false⟩); let ds ← (do let d ← valM (pure ⟨.int 2, false⟩); let ds ← (do let d ← valM (pure ⟨.int 4, false⟩); let ds ← (pure []); pure (d :: ds)); pure (d :: ds)); pure (d :: ds))); let ds ← (pure []); pure (d :: ds))); let ds ← (pure []); pure (d :: ds)); pure (d :: ds))) (tupT 2 (consM (nameM 2) (consM (nameM 3) (nilM)))) [.ow true (potL a b), .vl (nD n), .un, .un, .un, .un, .un, .un] = some (.ok .nx [.ow true (potL a2 b2), .vl (nD n), .vl (nD w), .vl (nD k), .un, .un, .un, .un]) := by
    generalize potL a b = q at *
    generalize potL a1 b1 = q1 at *
    generalize potL a2 b2 = q2 at *
    simp [r1, r2]
  have c1 : (asB (op2 (cmpD .eq) (readO 2) (toO (pure ⟨.int 0, false⟩)))) [.ow true (potL a2 b2), .vl (nD n), .vl (nD w), .vl (nD k), .un, .un, .un, .un] = some (.ok (decide ((w : Int) = 0)) [.ow true (potL a2 b2), .vl (nD n), .vl (nD w), .vl (nD k), .un, .un, .un, .un]) := by
    generalize potL a2 b2 = q2 at *
    simp
  by_cases h0 : (w : Int) = 0
  · rw [decide_eq_true h0] at c1
    obtain ⟨vs, a3, b3, hl, hb, p3, r3⟩ := l_faces_0 (n := n) hn p2 (.vl (nD w)) (.vl (nD k)) .un .un .un
    have t1 : tupleF [iD vs] = some ⟨.tuple (vs.map PyData.int), false⟩ := rfl
    have m1 : mulD (.list [.tuple (vs.map PyData.int)]) (nD n) = some ⟨.list ((List.range n).map fun _ => .tuple (vs.map PyData.int)), true⟩ := by
      show (if (n : Int) < 1000000 ∧ -1000000 < (n : Int) ∧ ([PyData.tuple (vs.map PyData.int)] : List PyData).length * (n : Int).toNat ≤ most then some (⟨.list (List.replicate (n : Int).toNat [PyData.tuple (vs.map PyData.int)]).flatten, true⟩ : RV) else none) = _
      rw [if_pos ⟨by omega, by omega, by simp only [List.length_singleton, Int.toNat_natCast]; unfold most; omega⟩, Int.toNat_natCast]
      simp [List.map_const']
    have f1 : PyData.tuple ((List.range n).map fun _ => .tuple (vs.map PyData.int)) = facesD n (fun _ j => vs.getD j 0) := by
      have := rowD_of hl
      rw [← this]
    have t2 : tupleF [.list ((List.range n).map fun _ => .tuple (vs.map PyData.int))] = some ⟨facesD n (fun _ j => vs.getD j 0), false⟩ := by
      rw [← f1]
      rfl
    refine ⟨fun _ j => vs.getD j 0, a3, b3, fun i j hi hj => ?_, p3, [.ow true (potL a3 b3), .vl (nD n), .vl (nD w), .vl (nD k), .vl (iD vs), .un, .un, .un], ?_, rfl⟩
    · have hj : j < vs.length := by omega
      simp only [getD_of hj]
      have := hb _ (List.getElem_mem hj)
      omega
    · rw [m__law_faces, run_then s1]
      refine run_thenR ?_
      rw [run_if c1, if_pos rfl]
      generalize facesD n (fun _ j => vs.getD j 0) = z at *
      generalize (List.range n).map (fun _ => PyData.tuple (vs.map PyData.int)) = z1 at *
      generalize PyData.tuple (vs.map PyData.int) = z2 at *
      generalize potL a2 b2 = q2 at *
      generalize potL a3 b3 = q3 at *
      generalize iD vs = z3 at *
      rw [run_then (e1 := [.ow true q3, .vl (nD n), .vl (nD w), .vl (nD k), .vl z3, .un, .un, .un]) (by simp [r3])]
      exact run_thenR (run_ret (by simp [t1, m1, t2]))
  · rw [decide_eq_false h0] at c1
    obtain ⟨F, a3, b3, f3, p3, ds, r3, q3⟩ := rows_drawn (w := w) hn hk p2
    obtain ⟨F', a4, b4, x6, f4, p4, r4⟩ := rows_ring (w := w) n1 hn hk p3 f3
    have r5 := l_faces_2 (F := F') hn (.ow true (potL a4 b4)) (.vl (nD n)) (.vl (nD w)) (.vl (nD k)) .un x6 .un
    have t5 : tupleF [.list ((List.range n).map fun i => rowD n (F' i))] = some ⟨facesD n F', false⟩ := rfl
    refine ⟨F', a4, b4, f4, p4, [.ow true (potL a4 b4), .vl (nD n), .vl (nD w), .vl (nD k), .un, .vl (.list ((rowsF n F').map PyData.list)), x6, .un], ?_, rfl⟩
    have i1 : ifM (asB (op2 (cmpD .eq) (readO 2) (toO (pure ⟨.int 0, false⟩)))) (thenM (setM 4 (frzM (c__law_faces_0))) (thenM (retM (op1L tupleF (toO (op2 mulD (toO (lstM (do let d ← valM (op1L tupleF (readO 4)); let ds ← (pure []); pure (d :: ds)))) (readO 1))))) (pure .nx))) (pure .nx) [.ow true (potL a2 b2), .vl (nD n), .vl (nD w), .vl (nD k), .un, .un, .un, .un] = some (.ok .nx [.ow true (potL a2 b2), .vl (nD n), .vl (nD w), .vl (nD k), .un, .un, .un, .un]) := by
      rw [run_if c1, if_neg (by simp)]
      rfl
    rw [m__law_faces, run_then s1, run_then i1, nestM, run_bind, r3, bndR_ok, run_bind, q3, run_lift_some, bndR_ok, run_bind, run_un, if_pos (by simp), bndR_ok, run_bind]
    have r4 : noX ((nifM 5 (asB (op2 (cmpD .eq) (readO 2) (toO (pure ⟨.int 1, false⟩)))) (nthenM (nforM 5 (rng1M (readO 1)) (nameM 6) ringM) (nnilM)) (nnilM)) (rowsF n F)) ([.ow true (potL a3 b3), .vl (nD n), .vl (nD w), .vl (nD k), .un, .un, .un, .un].set 5 .un) = _ := r4
    unfold ringM at r4
    rw [r4, bndR_ok, run_bind, run_store, if_pos (by simp), bndR_ok]
    have e5 : ([.ow true (potL a4 b4), .vl (nD n), .vl (nD w), .vl (nD k), .un, .un, x6, .un] : En).set 5 (Sl.of ⟨.list ((rowsF n F').map PyData.list), false⟩) = [.ow true (potL a4 b4), .vl (nD n), .vl (nD w), .vl (nD k), .un, .vl (.list ((rowsF n F').map PyData.list)), x6, .un] := rfl
    rw [e5]
    generalize facesD n F' = z at *
    generalize (List.range n).map (fun i => rowD n (F' i)) = z1 at *
    generalize PyData.list ((rowsF n F').map PyData.list) = z2 at *
    generalize potL a4 b4 = q4 at *
    exact run_thenR (run_ret (by simp [r5, t5]))
theorem k_faces {a b : Int} {n i : Nat} {c : Bool} {e : En} (n1 : 1 ≤ n) (n4 : n ≤ 4) (p : Pot a b) (hi : e[i]? = some (.ow c (potL a b))) : ∃ (F : Nat → Nat → Int) (a' b' : Int), Small n F ∧ Pot a' b' ∧ runPM i N__law_faces.length ps__law_faces.length m__law_faces [nD n] e = some (.ok ⟨facesD n F, false⟩ (e.set i (.ow c (potL a' b')))) := by
  obtain ⟨F, a', b', h1, h2, h3⟩ := faces_run n1 n4 p
  exact ⟨F, a', b', h1, h2, runPM_eq hi rfl rfl h3⟩
end Lw

set_option Elab.async false
set_option linter.all false
set_option maxRecDepth 100000
set_option maxHeartbeats 4000000
namespace Lw
open PySem PySem.Spec L2 Ev
theorem l_msg_0 {a b : Int} {n : Nat} (n1 : 1 ≤ n) (n4 : n ≤ 4) (p : Pot a b) : ∃ (fs : List (List Nat)) (a' b' : Int), fs.Sublist (fullL n) ∧ Pot a' b' ∧
    c__law_messages_0 [.ow true (potL a b), .vl (nD n), .un, .un, .un] = some (.ok ⟨lmD fs, true⟩ [.ow true (potL a' b'), .vl (nD n), .un, .un, .un]) := by
  have k0 := fun e => k__law_sets (n := n) n1 n4 e
  have := lc_inv (own := [4]) (mi := seqM (callM N__law_sets.length ps__law_sets.length m__law_sets (do let d ← valM (readV 1); let ds ← (pure []); pure (d :: ds)))) (step := turnM (nameM 4) (asB (op2 (cmpD .eq) (toO (callPM 0 N__law_draw.length ps__law_draw.length m__law_draw (do let d ← valM (pure ⟨.int 3, false⟩); let ds ← (pure []); pure (d :: ds)))) (toO (pure ⟨.int 0, false⟩)))) (readV 4)) (e := [.ow true (potL a b), .vl (nD n), .un, .un, .un]) mD (fun s : Int × Int => [.ow true (potL s.1 s.2), .vl (nD n), .un, .un, .un]) (fun s rem acc => Pot s.1 s.2 ∧ ∃ fs : List (List Nat), acc = fs.map mD ∧ (fs ++ rem).Sublist (fullL n)) (fullL n) (a, b) (by
      have it : itemsOf (lmD (fullL n)) = some ((fullL n).map mD) := rfl
      generalize lmD (fullL n) = z at *
      generalize potL a b = q at *
      simp [seqM, k0, it]) ⟨p, [], rfl, by simp⟩ (fun x rem s acc ⟨hp, fs, h1, h2⟩ => by
      obtain ⟨v, a', b', hv, hp', hr⟩ := k_draw (i := 0) (c := true) (k := 3) (e := [.ow true (potL s.1 s.2), .vl (nD n), .un, .un, .vl (mD x)]) hp (by decide) (by decide) rfl
      have hr : runPM 0 N__law_draw.length ps__law_draw.length m__law_draw [.int 3] [.ow true (potL s.1 s.2), .vl (nD n), .un, .un, .vl (mD x)] = some (.ok ⟨nD v, false⟩ [.ow true (potL a' b'), .vl (nD n), .un, .un, .vl (mD x)]) := hr
      by_cases hv0 : (v : Int) = 0
      · refine ⟨some (mD x), (a', b'), [.ow true (potL a' b'), .vl (nD n), .un, .un, .vl (mD x)], ?_, rfl, hp', fs ++ [x], by simp [h1], by simpa using h2⟩
        generalize potL s.1 s.2 = q at *
        generalize potL a' b' = q' at *
        generalize mD x = y at *
        simp [turnM, hr, hv0]
      · refine ⟨none, (a', b'), [.ow true (potL a' b'), .vl (nD n), .un, .un, .vl (mD x)], ?_, rfl, hp', fs, by simp [h1], ((List.Sublist.refl fs).append (List.sublist_cons_self x rem)).trans h2⟩
        generalize potL s.1 s.2 = q at *
        generalize potL a' b' = q' at *
        generalize mD x = y at *
        simp [turnM, hr, show ¬ v = 0 by omega]) (by have := full_len n1 n4; unfold most; omega) (fun s => rfl)
  obtain ⟨s, ds, ⟨hp, fs, h1, h2⟩, hr⟩ := this
  subst h1
  exact ⟨fs, s.1, s.2, by simpa using h2, hp, hr⟩
theorem l_msg_1 {n : Nat} {x : Nat} {found : List (List Nat)} (hl : found.length ≤ 100) (x0 : Sl) : c__law_messages_1 [x0, .vl (nD n), .ow false (found.map mD), .vl (nD x), .un] = some (.ok ⟨.list (found.map fun m => .bool (decide (x ∈ m))), true⟩ [x0, .vl (nD n), .ow false (found.map mD), .vl (nD x), .un]) := by
  rw [c__law_messages_1, lcK_t (b := false) mD (fun b : Bool => PyData.bool b) (fun m => some (decide (x ∈ m))) (xs := found) rfl]
  · simp
  · intro m hm
    exact ⟨[x0, .vl (nD n), .un, .vl (nD x), .vl (mD m)], by simp [turnM], by simp⟩
  · exact big hl
  · simp
  · rfl
  · rfl
theorem l_msg_2 {n : Nat} {x : Nat} (n1 : 1 ≤ n) (n4 : n ≤ 4) (x0 x2 : Sl) : c__law_messages_2 [x0, .vl (nD n), x2, .vl (nD x), .un] = some (.ok ⟨lmD ((fullL n).filter fun m => decide (x ∈ m)), true⟩ [x0, .vl (nD n), x2, .vl (nD x), .un]) := by
  have k0 := fun e => k__law_sets (n := n) n1 n4 e
  rw [c__law_messages_2, lc_t mD mD (fun m => if x ∈ m then some m else none) (xs := fullL n)]
  · simp
  · have it : itemsOf (lmD (fullL n)) = some ((fullL n).map mD) := rfl
    generalize lmD (fullL n) = z at *
    simp [seqM, k0, it]
  · intro m hm
    refine ⟨[x0, .vl (nD n), x2, .vl (nD x), .vl (mD m)], ?_, by simp⟩
    by_cases q : x ∈ m <;> simp [turnM, q]
  · have := full_len n1 n4
    unfold most
    omega
  · simp
/-- found so far -/
structure Found (n : Nat) (found : List (List Nat)) (rem : List Nat) : Prop where
  nd : found.Nodup
  sub : ∀ m ∈ found, m ∈ fullL n
  cov : ∀ s, s < n → s ∉ rem → ∃ m ∈ found, s ∈ m
  lt : ∀ x ∈ rem, x < n
  len : found.length + rem.length ≤ 20
theorem msg_step {a b : Int} {n x : Nat} {found : List (List Nat)} {rem : List Nat} (n1 : 1 ≤ n) (n4 : n ≤ 4) (p : Pot a b) (f : Found n found (x :: rem)) (y : Sl) : ∃ (found' : List (List Nat)) (a' b' : Int), Pot a' b' ∧ Found n found' rem ∧
    b__law_messages_0 (nD x) [.ow true (potL a b), .vl (nD n), .ow false (found.map mD), y, .un] = some (.ok .nx [.ow true (potL a' b'), .vl (nD n), .ow false (found'.map mD), .vl (nD x), .un]) := by
  have hx := f.lt x List.mem_cons_self
  have fl := f.len
  simp only [List.length_cons] at fl
  have l1 := l_msg_1 (n := n) (x := x) (found := found) (by omega) (.ow true (potL a b))
  have a1 : anyF [.list (found.map fun m => PyData.bool (decide (x ∈ m)))] = some ⟨.bool (found.any fun m => decide (x ∈ m)), false⟩ := anys_comp (fun m : List Nat => decide (x ∈ m)) found
  have s0 : nameM 3 (nD x) [.ow true (potL a b), .vl (nD n), .ow false (found.map mD), y, .un] = some (.ok () [.ow true (potL a b), .vl (nD n), .ow false (found.map mD), .vl (nD x), .un]) := by simp
  have c1 : (Ev.notM (asB (op1L anyF (toO (c__law_messages_1))))) [.ow true (potL a b), .vl (nD n), .ow false (found.map mD), .vl (nD x), .un] = some (.ok (!found.any fun m => decide (x ∈ m)) [.ow true (potL a b), .vl (nD n), .ow false (found.map mD), .vl (nD x), .un]) := by
    generalize (found.map fun m => PyData.bool (decide (x ∈ m))) = z at *
    generalize (found.any fun m => decide (x ∈ m)) = t at *
    generalize potL a b = q at *
    simp [l1, a1]
  by_cases hc : (found.any fun m => decide (x ∈ m)) = true
  · rw [hc] at c1
    refine ⟨found, a, b, p, ⟨f.nd, f.sub, fun s hs hr => ?_, fun z hz => f.lt z (List.mem_cons_of_mem _ hz), by omega⟩, ?_⟩
    · by_cases e : s = x
      · subst e
        obtain ⟨m, hm, h⟩ := List.any_eq_true.mp hc
        exact ⟨m, hm, by simpa using h⟩
      · exact f.cov s hs fun w => by
          rcases List.mem_cons.mp w with w | w
          · exact e w
          · exact hr w
    · rw [b__law_messages_0, bodyM, run_bind, s0, bndR_ok, run_then (e1 := [.ow true (potL a b), .vl (nD n), .ow false (found.map mD), .vl (nD x), .un]) (by rw [run_if c1, if_neg (by simp)]; rfl)]
      rfl
  · have hc' : (found.any fun m => decide (x ∈ m)) = false := by simpa using hc
    rw [hc'] at c1
    have l2 := l_msg_2 (n := n) (x := x) n1 n4 (.ow true (potL a b)) (.ow false (found.map mD))
    have h0 : ((fullL n).filter fun m => decide (x ∈ m)) ≠ [] := fun w => by
      obtain ⟨m, hm, h⟩ := full_cov n1 n4 x hx
      have : m ∈ (fullL n).filter fun m => decide (x ∈ m) := List.mem_filter.mpr ⟨hm, by simpa using h⟩
      rw [w] at this
      cases this
    have hl : ((fullL n).filter fun m => decide (x ∈ m)).length ≤ 1000 := by
      have := full_len n1 n4
      have := List.length_filter_le (fun m => decide (x ∈ m)) (fullL n)
      omega
    obtain ⟨m, a', b', hm, hp', hr⟩ := k_pick (i := 0) (c := true) (e := [.ow true (potL a b), .vl (nD n), .ow false (found.map mD), .vl (nD x), .un]) mD _ p h0 hl rfl
    obtain ⟨hm1, hm2⟩ := List.mem_filter.mp hm
    have hm2 : x ∈ m := by simpa using hm2
    have hr : runPM 0 N__law_pick.length ps__law_pick.length m__law_pick [lmD ((fullL n).filter fun m => decide (x ∈ m))] [.ow true (potL a b), .vl (nD n), .ow false (found.map mD), .vl (nD x), .un] = some (.ok ⟨mD m, false⟩ [.ow true (potL a' b'), .vl (nD n), .ow false (found.map mD), .vl (nD x), .un]) := hr
    have new : m ∉ found := fun w => hc (List.any_eq_true.mpr ⟨m, w, by simpa using hm2⟩)
    refine ⟨found ++ [m], a', b', hp', ⟨?_, fun z hz => ?_, fun s hs hr => ?_, fun z hz => f.lt z (List.mem_cons_of_mem _ hz), by simp; omega⟩, ?_⟩
    · refine List.nodup_append.mpr ⟨f.nd, by simp, fun u hu v hv e => ?_⟩
      have : v = m := by simpa using hv
      exact new (by rw [← this, ← e]; exact hu)
    · rcases List.mem_append.mp hz with hz | hz
      · exact f.sub z hz
      · have : z = m := by simpa using hz
        rw [this]; exact hm1
    · by_cases e : s = x
      · subst e
        exact ⟨m, by simp, hm2⟩
      · obtain ⟨u, hu, h⟩ := f.cov s hs fun w => by
          rcases List.mem_cons.mp w with w | w
          · exact e w
          · exact hr w
        exact ⟨u, by simp [hu], h⟩
    · have ef : (found ++ [m]).map mD = found.map mD ++ [mD m] := by simp
      have g : (found.map mD).length < most := by rw [List.length_map]; unfold most; omega
      rw [ef, b__law_messages_0, bodyM, run_bind, s0, bndR_ok, run_then (e1 := [.ow true (potL a' b'), .vl (nD n), .ow false (found.map mD ++ [mD m]), .vl (nD x), .un]) (by
        rw [run_if c1, if_pos (by simp)]
        refine (run_then (e1 := [.ow true (potL a' b'), .vl (nD n), .ow false (found.map mD ++ [mD m]), .vl (nD x), .un]) ?_).trans rfl
        generalize lmD ((fullL n).filter fun m => decide (x ∈ m)) = z at *
        generalize found.map mD = fd at *
        generalize mD m = md at *
        generalize potL a b = q at *
        generalize potL a' b' = q' at *
        simp [appM, l2, hr, g])]
      rfl
/-- messages are drawn -/
theorem msgs_run {a b : Int} {n : Nat} (n1 : 1 ≤ n) (n4 : n ≤ 4) (p : Pot a b) : ∃ (q : List Nat → Bool) (a' b' : Int), Fine n ((fullL n).filter q) ∧ Pot a' b' ∧ RetP m__law_messages [.ow true (potL a b), .vl (nD n), .un, .un, .un] ⟨msD ((fullL n).filter q), false⟩ (potL a' b') := by
  obtain ⟨fs, a1, b1, h1, p1, r1⟩ := l_msg_0 n1 n4 p
  have nf : (fullL n).Nodup := four (p := fun n => (fullL n).Nodup) n1 n4 (by decide +kernel) (by decide +kernel) (by decide +kernel) (by decide +kernel)
  have l15 := full_len n1 n4
  have lp := for_inv (step := b__law_messages_0) nD (fun s : (Int × Int) × List (List Nat) × Sl => [.ow true (potL s.1.1 s.1.2), .vl (nD n), .ow false (s.2.1.map mD), s.2.2, .un]) (fun s rem => Pot s.1.1 s.1.2 ∧ Found n s.2.1 rem) (fun x rem s ⟨hp, hf⟩ => by
    obtain ⟨f', a', b', q1, q2, q3⟩ := msg_step n1 n4 hp hf s.2.2
    exact ⟨((a', b'), f', .vl (nD x)), q3, q1, q2⟩) (List.range n) ((a1, b1), fs, .un) ⟨p1, nf.sublist h1, fun m hm => h1.subset hm, fun s hs hr => absurd (List.mem_range.mpr hs) hr, fun x hx => List.mem_range.mp hx, by have := h1.length_le; simp; omega⟩
  obtain ⟨s, r2, hp, hf⟩ := lp
  have pm := drawn_perm n1 n4 hf.nd hf.sub
  have srt := sortedF_rows (xs := s.2.1) (ys := (fullL n).filter fun m => decide (m ∈ s.2.1)) (fun w => (full_nodup n1 n4 _ (hf.sub _ w)).2.1 rfl) (by have := hf.len; unfold most; omega) pm ((full_sorted n1 n4).sublist List.filter_sublist)
  refine ⟨fun m => decide (m ∈ s.2.1), s.1.1, s.1.2, fine_of n1 n4 _ fun x hx => ?_, hp, [.ow true (potL s.1.1 s.1.2), .vl (nD n), .ow false (s.2.1.map mD), s.2.2, .un], ?_, rfl⟩
  · obtain ⟨m, hm, h⟩ := hf.cov x hx (by simp)
    exact ⟨m, List.mem_filter.mpr ⟨hf.sub m hm, by simpa using hm⟩, h⟩
  · have m0 : rng1M (readO 1) [.ow true (potL a1 b1), .vl (nD n), .ow false (fs.map mD), .un, .un] = some (.ok ((List.range n).map nD) [.ow true (potL a1 b1), .vl (nD n), .ow false (fs.map mD), .un, .un]) := by
      generalize potL a1 b1 = q1 at *
      simp [rng1M, rngD_nat (show n ≤ 100 by omega)]
    have f2 := run_for m0 r2
    have t1 : tupleF [lmD ((fullL n).filter fun m => decide (m ∈ s.2.1))] = some ⟨msD ((fullL n).filter fun m => decide (m ∈ s.2.1)), false⟩ := rfl
    generalize msD ((fullL n).filter fun m => decide (m ∈ s.2.1)) = z1 at *
    generalize lmD ((fullL n).filter fun m => decide (m ∈ s.2.1)) = z2 at *
    rw [m__law_messages, run_then (e1 := [.ow true (potL a1 b1), .vl (nD n), .ow false (fs.map mD), .un, .un]) (by
      generalize potL a b = q at *
      generalize potL a1 b1 = q1 at *
      simp [r1]), run_then f2]
    generalize potL s.1.1 s.1.2 = q2 at *
    exact run_thenR (run_ret (by simp [srt, t1]))
theorem k_msgs {a b : Int} {n i : Nat} {c : Bool} {e : En} (n1 : 1 ≤ n) (n4 : n ≤ 4) (p : Pot a b) (hi : e[i]? = some (.ow c (potL a b))) : ∃ (q : List Nat → Bool) (a' b' : Int), Fine n ((fullL n).filter q) ∧ Pot a' b' ∧ runPM i N__law_messages.length ps__law_messages.length m__law_messages [nD n] e = some (.ok ⟨msD ((fullL n).filter q), false⟩ (e.set i (.ow c (potL a' b')))) := by
  obtain ⟨F, a', b', h1, h2, h3⟩ := msgs_run n1 n4 p
  exact ⟨F, a', b', h1, h2, runPM_eq hi rfl rfl h3⟩
end Lw

set_option Elab.async false
set_option linter.all false
set_option maxRecDepth 100000
set_option maxHeartbeats 4000000
namespace Lw
open PySem PySem.Spec L2 Ev
/-- data whose text is short -/
structure Tame (k w : Nat) (d : PyData) : Prop where
  sh : d.showable = true
  dp : d.depth ≤ k
  lv : d.leavesShort 13 = true
  wt : d.weight ≤ w
theorem Tame.up {k w k' w' : Nat} {d : PyData} (h : Tame k w d) (hk : k ≤ k') (hw : w ≤ w') : Tame k' w' d := ⟨h.sh, Nat.le_trans h.dp hk, h.lv, Nat.le_trans h.wt hw⟩
theorem tame_none : Tame 0 0 .none := ⟨rfl, Nat.le_refl _, rfl, Nat.le_refl _⟩
theorem tame_bool (b : Bool) : Tame 0 0 (.bool b) := ⟨rfl, Nat.le_refl _, rfl, Nat.le_refl _⟩
theorem tame_int {i : Int} (h : i.natAbs < 1000) : Tame 0 11 (.int i) := by
  have l : i.natAbs.log2 ≤ 10 := by
    by_cases z : i.natAbs = 0
    · rw [z]; decide
    · have : i.natAbs.log2 < 10 := (Nat.log2_lt z).mpr (by omega)
      omega
  refine ⟨?_, Nat.le_refl _, ?_, ?_⟩
  · show decide (i.natAbs.log2 < 1920) = true
    exact decide_eq_true (by omega)
  · show decide ((PyData.shown (.int i)).length ≤ 13) = true
    exact decide_eq_true (PyData.shown_int_le (by omega))
  · show (if i == 0 then 0 else i.natAbs.log2 + 1) ≤ 11
    split <;> omega
theorem tame_nat {i : Nat} (h : i < 1000) : Tame 0 11 (nD i) := tame_int (by omega)
theorem tame_all {k w : Nat} : ∀ {ds : List PyData}, (∀ d ∈ ds, Tame k w d) → PyData.showableAll ds = true ∧ PyData.depthAll ds ≤ k ∧ PyData.leavesShortAll 13 ds = true ∧ PyData.weightAll ds ≤ ds.length * (w + 1)
  | [], _ => ⟨rfl, Nat.zero_le _, rfl, Nat.zero_le _⟩
  | d :: ds, h => by
    obtain ⟨a, b, c, e⟩ := tame_all (ds := ds) fun x hx => h x (List.mem_cons_of_mem _ hx)
    have t := h d List.mem_cons_self
    refine ⟨?_, ?_, ?_, ?_⟩
    · simp only [PyData.showableAll, t.sh, a, Bool.and_self]
    · simp only [PyData.depthAll]
      exact Nat.max_le.mpr ⟨t.dp, b⟩
    · simp only [PyData.leavesShortAll, t.lv, c, Bool.and_self]
    · have := t.wt
      simp only [PyData.weightAll, List.length_cons, Nat.succ_mul]
      omega
theorem tame_tup {k w l : Nat} {ds : List PyData} (h : ∀ d ∈ ds, Tame k w d) (hl : ds.length ≤ l) : Tame (k + 1) (l * (w + 1)) (.tuple ds) := by
  obtain ⟨a, b, c, e⟩ := tame_all h
  have := Nat.mul_le_mul_right (w + 1) hl
  refine ⟨by simpa only [PyData.showable] using a, ?_, by simpa only [PyData.leavesShort] using c, ?_⟩
  · simp only [PyData.depth]; omega
  · simp only [PyData.weight]; omega
theorem tame_lst {k w l : Nat} {ds : List PyData} (h : ∀ d ∈ ds, Tame k w d) (hl : ds.length ≤ l) : Tame (k + 1) (l * (w + 1)) (.list ds) := by
  obtain ⟨a, b, c, e⟩ := tame_all h
  have := Nat.mul_le_mul_right (w + 1) hl
  refine ⟨by simpa only [PyData.showable] using a, ?_, by simpa only [PyData.leavesShort] using c, ?_⟩
  · simp only [PyData.depth]; omega
  · simp only [PyData.weight]; omega
theorem repr_ok {k w : Nat} {d : PyData} (h : Tame k w d) (hk : k ≤ 60) (hw : w ≤ 60000) : reprF [d] = some ⟨.str d.shown, false⟩ := by
  have s := PyData.shown_le 13 (by decide) d h.lv
  have g : (13 + 2) * d.weight ≤ 15 * 60000 := Nat.mul_le_mul (by decide) (Nat.le_trans h.wt hw)
  show (if d.showable = true ∧ d.depth ≤ 60 ∧ d.shown.length ≤ most then lit (.str d.shown) else none) = _
  rw [if_pos ⟨h.sh, Nat.le_trans h.dp hk, by unfold most; omega⟩]
theorem tame_two {k w : Nat} {a b : PyData} (ha : Tame k w a) (hb : Tame k w b) : Tame (k + 1) (2 * (w + 1)) (.list [a, b]) := tame_lst (fun d hd => by
  rcases List.mem_cons.mp hd with rfl | hd
  · exact ha
  · have : d = b := by simpa using hd
    rw [this]; exact hb) (Nat.le_refl _)
theorem tame_mD {m : List Nat} {l : Nat} (h : ∀ s ∈ m, s < 1000) (hl : m.length ≤ l) : Tame 1 (l * 12) (mD m) := tame_tup (fun d hd => by
  obtain ⟨s, hs, rfl⟩ := List.mem_map.mp hd
  exact tame_nat (h s hs)) (by simpa using hl)
section
variable {n : Nat} {F : Nat → Nat → Int} {m : List Nat} {s : Nat} {ms : List (List Nat)}
theorem tame_faces (h : Small n F) (h4 : n ≤ 4) : Tame 2 20000 (facesD n F) := by
  have : Tame 2 (4 * (4 * 12 + 1)) (facesD n F) := tame_tup (fun d hd => by
    obtain ⟨i, hi, rfl⟩ := List.mem_map.mp hd
    refine tame_tup (k := 0) (w := 11) (fun d hd => ?_) (by simpa using h4)
    obtain ⟨j, hj, rfl⟩ := List.mem_map.mp hd
    have := h i j (List.mem_range.mp hi) (List.mem_range.mp hj)
    exact tame_int (by omega)) (by simpa using h4)
  exact this.up (by decide) (by decide)
theorem tame_msgs (h : Good n ms) : Tame 2 20000 (msD ms) := by
  have : Tame 2 (15 * (100 * 12 + 1)) (msD ms) := tame_tup (fun d hd => by
    obtain ⟨m, hm, rfl⟩ := List.mem_map.mp hd
    have hh := h.ok m hm
    exact tame_mD (fun s hs => by have := hh.lt s hs; have := h.n4; omega) hh.len) (by simpa using h.l15)
  exact this.up (by decide) (by decide)
theorem tame_way {t r : List Nat} (h : Good n ms) (w : Way n ms t r) : Tame 2 20000 (wayV t r) := by
  have h4 := h.n4
  have l15 := h.l15
  have : Tame 2 (2 * (15 * 12 + 1)) (wayV t r) := tame_tup (fun d hd => by
    obtain ⟨m, hm, rfl⟩ := List.mem_map.mp hd
    rcases List.mem_cons.mp hm with rfl | hm
    · exact tame_mD (fun s hs => by have := w.ta s hs; omega) (by have := w.tl; omega)
    · have : m = r := by simpa using hm
      subst this
      exact tame_mD (fun s hs => by have := w.ra s hs; omega) (by have := w.rl; omega)) (by simp)
  exact this.up (by decide) (by decide)
theorem tame_bs : Tame 1 20000 (.str "barred") := ⟨by decide, by decide, by decide, by decide⟩
theorem tame_ss : Tame 1 20000 (.str "short") := ⟨by decide, by decide, by decide, by decide⟩
theorem envs_lt (h : Msg n m) (hf : fit F m = []) : ∀ o ∈ envs F m, o < n := fun o ho => by
  obtain ⟨s, hs, rfl⟩ := List.mem_map.mp ho
  exact h.lt _ (List.mem_filter.mp (envs_mem hf hs)).1
theorem tame_bar {i : Nat} (h : Msg n m) (h4 : n ≤ 4) (hi : i < 1000) (hf : fit F m = []) : Tame 2 20000 (barD F m i) := by
  have : Tame 2 (3 * (1200 + 1)) (barD F m i) := tame_tup (k := 1) (w := 1200) (fun d hd => by
    have : d = .str "barred" ∨ d = nD i ∨ d = mD (envs F m) := by simpa using hd
    rcases this with rfl | rfl | rfl
    · exact ⟨by decide, by decide, by decide, by decide⟩
    · exact (tame_nat hi).up (by decide) (by decide)
    · exact tame_mD (l := 100) (fun s hs => by have := envs_lt h hf s hs; omega) (by simpa [envs] using h.len)) (by simp)
  exact this.up (by decide) (by decide)
theorem tame_sho {t : List Nat} (h1 : ∀ s ∈ t, s < n) (h4 : n ≤ 4) (hl : t.length ≤ 4) : Tame 2 20000 (shoD t) := by
  have : Tame 2 (2 * (1200 + 1)) (shoD t) := tame_tup (k := 1) (w := 1200) (fun d hd => by
    have : d = .str "short" ∨ d = mD t := by simpa using hd
    rcases this with rfl | rfl
    · exact ⟨by decide, by decide, by decide, by decide⟩
    · exact tame_mD (l := 100) (fun s hs => by have := h1 s hs; omega) (by omega)) (by simp)
  exact this.up (by decide) (by decide)
end
end Lw

set_option Elab.async false
set_option linter.all false
set_option maxRecDepth 100000
set_option maxHeartbeats 4000000
namespace Lw
open PySem PySem.Spec L2 Ev
abbrev ppD (p : Nat × Nat) : PyData := .tuple [nD p.1, nD p.2]
section
variable {n : Nat} {F : Nat → Nat → Int} {m : List Nat} {s : Nat} {ms : List (List Nat)}
/-- what a state has more by other messages -/
def gain1 (F : Nat → Nat → Int) (ms : List (List Nat)) (r : List Nat) (s : Nat) (o : Int) : List (Nat × Nat) := (ms.zipIdx.filter fun p => decide (s ∈ p.1) && decide (o < F s (r.getD p.2 0))).map fun p => (s, p.2)
def gainL (n : Nat) (F : Nat → Nat → Int) (ms : List (List Nat)) (t r : List Nat) : List (Nat × Nat) := (List.range n).flatMap fun s => gain1 F ms r s (F s (r.getD (t.getD s 0) 0))
theorem gain1_len {r : List Nat} {o : Int} : (gain1 F ms r s o).length ≤ ms.length := by
  unfold gain1
  rw [List.length_map]
  exact Nat.le_trans (List.length_filter_le _ _) (by simp)
theorem gen_gain0 {t r : List Nat} {o : Int} (w : Way n ms t r) (hs : s < n) (acc : List (Nat × Nat)) (hz : acc.length + ms.length ≤ 1000) (a b c d : Sl) : ∃ q : Sl × Sl, forGo b_gains_of_0 (ms.zipIdx.map fun p => PyData.tuple [nD p.2, mD p.1]) [.vl (facesD n F), .vl (msD ms), a, b, .vl (mD r), .ow false (acc.map ppD), .vl (nD s), .vl (.int o), c, d] =
    some (.ok .nx [.vl (facesD n F), .vl (msD ms), a, b, .vl (mD r), .ow false ((acc ++ gain1 F ms r s o).map ppD), .vl (nD s), .vl (.int o), q.1, q.2]) := by
  have lp := for_inv (step := b_gains_of_0) (fun p : List Nat × Nat => PyData.tuple [nD p.2, mD p.1]) (fun q : List (Nat × Nat) × Sl × Sl => [.vl (facesD n F), .vl (msD ms), a, b, .vl (mD r), .ow false (q.1.map ppD), .vl (nD s), .vl (.int o), q.2.1, q.2.2]) (fun q rem => q.1.length + rem.length ≤ 1000 ∧ (∀ p ∈ rem, p.2 < ms.length) ∧ q.1 ++ (rem.filter fun p => decide (s ∈ p.1) && decide (o < F s (r.getD p.2 0))).map (fun p => (s, p.2)) = acc ++ gain1 F ms r s o) (fun p rem q ⟨h1, h2, h3⟩ => by
    have hp2 : p.2 < r.length := by rw [w.rl]; exact h2 p List.mem_cons_self
    have hr : r.getD p.2 0 < n := getD_lt w.ra hp2
    have i1 : idxD (facesD n F) (nD s) = some ⟨rowD n (F s), false⟩ := idx_faces (j := 0) hs []
    have i2 := idx_mD hp2
    have i3 := idx_row (f := F s) hr
    simp only [List.length_cons] at h1
    have g : (q.1.map ppD).length < most := by rw [List.length_map]; unfold most; omega
    rw [List.filter_cons] at h3
    generalize r.getD p.2 0 = v at *
    by_cases z : s ∈ p.1
    · by_cases z2 : o < F s v
      · refine ⟨(q.1 ++ [(s, p.2)], .vl (nD p.2), .vl (mD p.1)), ?_, by simp; omega, fun x hx => h2 x (List.mem_cons_of_mem _ hx), ?_⟩
        · have ec : (q.1 ++ [(s, p.2)]).map ppD = q.1.map ppD ++ [ppD (s, p.2)] := by simp
          simp only [ec]
          generalize q.1.map ppD = ac at *
          simp [b_gains_of_0, bodyM, z, -idx_tup, i1, i2, i3, gtD, z2, appM, g]
        · rw [← h3]
          simp [z, z2]
      · refine ⟨(q.1, .vl (nD p.2), .vl (mD p.1)), ?_, (by show q.1.length + rem.length ≤ 1000; omega), fun x hx => h2 x (List.mem_cons_of_mem _ hx), ?_⟩
        · simp [b_gains_of_0, bodyM, z, -idx_tup, i1, i2, i3, gtD, z2]
        · rw [← h3]
          simp [z2]
    · refine ⟨(q.1, .vl (nD p.2), .vl (mD p.1)), ?_, (by show q.1.length + rem.length ≤ 1000; omega), fun x hx => h2 x (List.mem_cons_of_mem _ hx), ?_⟩
      · simp [b_gains_of_0, bodyM, z]
      · rw [← h3]
        simp [z]) ms.zipIdx (acc, c, d) ⟨by simpa using hz, fun p hp => by
        obtain ⟨x, i⟩ := p
        have := List.snd_lt_of_mem_zipIdx hp
        simpa using this, rfl⟩
  obtain ⟨q, h, _, _, h3⟩ := lp
  have h3 : q.1 = acc ++ gain1 F ms r s o := by simpa using h3
  rw [h3] at h
  exact ⟨q.2, h⟩
theorem gen_gain1 {t r : List Nat} (h : Good n ms) (w : Way n ms t r) (a : Sl) : ∃ q : (Sl × Sl) × Sl × Sl, forGo b_gains_of_1 ((List.range n).map nD) [.vl (facesD n F), .vl (msD ms), a, .vl (mD t), .vl (mD r), .ow false [], .un, .un, .un, .un] =
    some (.ok .nx [.vl (facesD n F), .vl (msD ms), a, .vl (mD t), .vl (mD r), .ow false ((gainL n F ms t r).map ppD), q.1.1, q.1.2, q.2.1, q.2.2]) := by
  have lp := for_inv (step := b_gains_of_1) nD (fun q : List (Nat × Nat) × (Sl × Sl) × Sl × Sl => [.vl (facesD n F), .vl (msD ms), a, .vl (mD t), .vl (mD r), .ow false (q.1.map ppD), q.2.1.1, q.2.1.2, q.2.2.1, q.2.2.2]) (fun q rem => q.1.length + rem.length * 15 ≤ 900 ∧ (∀ s ∈ rem, s < n) ∧ q.1 ++ (rem.flatMap fun s => gain1 F ms r s (F s (r.getD (t.getD s 0) 0))) = gainL n F ms t r) (fun s rem q ⟨h1, h2, h3⟩ => by
    have hs := h2 s List.mem_cons_self
    have st : s < t.length := by rw [w.tl]; exact hs
    have i1 : idxD (facesD n F) (nD s) = some ⟨rowD n (F s), false⟩ := idx_faces (j := 0) hs []
    have i2 := idx_mD st
    have hta := getD_lt w.ta st
    have i3 := idx_mD (t := r) (i := t.getD s 0) (by rw [w.rl]; exact hta)
    have hrr : r.getD (t.getD s 0) 0 < n := getD_lt w.ra (by rw [w.rl]; exact hta)
    have l15 := h.l15
    rw [List.flatMap_cons] at h3
    simp only [List.length_cons] at h1
    generalize r.getD (t.getD s 0) 0 = v at *
    generalize t.getD s 0 = u at *
    have gl := gain1_len (F := F) (ms := ms) (r := r) (s := s) (o := F s v)
    obtain ⟨q2, l⟩ := gen_gain0 (F := F) (o := F s v) w hs q.1 (by omega) a (.vl (mD t)) q.2.2.1 q.2.2.2
    refine ⟨(q.1 ++ gain1 F ms r s (F s v), (.vl (nD s), .vl (.int (F s v))), q2), ?_, by rw [List.length_append]; omega, fun x hx => h2 x (List.mem_cons_of_mem _ hx), by rw [← h3, List.append_assoc]⟩
    have s1 : setM 7 (op2 idxD (toO (op2 idxD (readO 0) (readO 6))) (toO (op2 idxD (readO 4) (toO (op2 idxD (readO 3) (readO 6)))))) [.vl (facesD n F), .vl (msD ms), a, .vl (mD t), .vl (mD r), .ow false (q.1.map ppD), .vl (nD s), q.2.1.2, q.2.2.1, q.2.2.2] = some (.ok .nx [.vl (facesD n F), .vl (msD ms), a, .vl (mD t), .vl (mD r), .ow false (q.1.map ppD), .vl (nD s), .vl (.int (F s v)), q.2.2.1, q.2.2.2]) := by
      generalize q.1.map ppD = ac at *
      simp [-idx_tup, i1, i2, i3, idx_row hrr]
    have m0 : enumM (readV 1) [.vl (facesD n F), .vl (msD ms), a, .vl (mD t), .vl (mD r), .ow false (q.1.map ppD), .vl (nD s), .vl (.int (F s v)), q.2.2.1, q.2.2.2] = some (.ok (ms.zipIdx.map fun p => PyData.tuple [nD p.2, mD p.1]) [.vl (facesD n F), .vl (msD ms), a, .vl (mD t), .vl (mD r), .ow false (q.1.map ppD), .vl (nD s), .vl (.int (F s v)), q.2.2.1, q.2.2.2]) := by
      generalize q.1.map ppD = ac at *
      simp [enumM, seqM, itemsOf]
    have f1 := run_for m0 l
    have b0 : nameM 6 (nD s) [.vl (facesD n F), .vl (msD ms), a, .vl (mD t), .vl (mD r), .ow false (q.1.map ppD), q.2.1.1, q.2.1.2, q.2.2.1, q.2.2.2] = some (.ok () [.vl (facesD n F), .vl (msD ms), a, .vl (mD t), .vl (mD r), .ow false (q.1.map ppD), .vl (nD s), q.2.1.2, q.2.2.1, q.2.2.2]) := by
      generalize q.1.map ppD = ac at *
      simp
    rw [b_gains_of_1, bodyM, run_bind, b0, bndR_ok, run_then s1, run_then f1]
    rfl) (List.range n) ([], (.un, .un), .un, .un) ⟨by have := h.n4; simp; omega, fun s hs => List.mem_range.mp hs, rfl⟩
  obtain ⟨q, h, _, _, h3⟩ := lp
  have h3 : q.1 = gainL n F ms t r := by simpa using h3
  rw [h3] at h
  exact ⟨q.2, h⟩
theorem gen_gains_of {t r : List Nat} (h : Good n ms) (w : Way n ms t r) (e : En) : runM N_gains_of.length ps_gains_of.length m_gains_of [facesD n F, msD ms, wayV t r] e = some (.ok ⟨.list ((gainL n F ms t r).map ppD), true⟩ e) := runM_eq rfl rfl (by
  obtain ⟨q, l⟩ := gen_gain1 (F := F) h w (.vl (wayV t r))
  have m0 : rng1M (toO (op1L lenF (readO 0))) [.vl (facesD n F), .vl (msD ms), .vl (wayV t r), .vl (mD t), .vl (mD r), .ow false [], .un, .un, .un, .un] = some (.ok ((List.range n).map nD) [.vl (facesD n F), .vl (msD ms), .vl (wayV t r), .vl (mD t), .vl (mD r), .ow false [], .un, .un, .un, .un]) := by
    have lm : lenF [facesD n F] = some ⟨nD n, false⟩ := by simp [lenF]
    generalize wayV t r = z at *
    generalize facesD n F = z2 at *
    simp [rng1M, lm, rngD_nat h.nle]
  have f1 := run_for m0 l
  refine ret_of (e1 := [.vl (facesD n F), .vl (msD ms), .vl (wayV t r), .vl (mD t), .vl (mD r), .un, q.1.1, q.1.2, q.2.1, q.2.2]) ?_
  show m_gains_of [.vl (facesD n F), .vl (msD ms), .vl (wayV t r), .un, .un, .un, .un, .un, .un, .un] = _
  rw [m_gains_of, run_then (e1 := [.vl (facesD n F), .vl (msD ms), .vl (wayV t r), .vl (mD t), .vl (mD r), .un, .un, .un, .un, .un]) (by simp), run_then (e1 := [.vl (facesD n F), .vl (msD ms), .vl (wayV t r), .vl (mD t), .vl (mD r), .ow false [], .un, .un, .un, .un]) (by simp), run_then f1]
  generalize (gainL n F ms t r).map ppD = z at *
  exact run_thenR (run_ret (by simp)))
end
end Lw

set_option Elab.async false
set_option linter.all false
set_option maxRecDepth 100000
set_option maxHeartbeats 4000000
namespace Lw
open PySem PySem.Spec L2 Ev
theorem pos_nat {d : PyData} {k : Nat} (h : posB d k = true) : ∃ a : Nat, d = nD a ∧ a < k := by
  cases d <;> try (simp [posB] at h)
  rename_i i
  exact ⟨i.toNat, by show PyData.int i = .int ((i.toNat : Nat) : Int); rw [Int.toNat_of_nonneg h.1], by omega⟩
theorem pos_all {k : Nat} : ∀ {ts : List PyData}, (ts.all fun d => posB d k) = true → ∃ t : List Nat, ts = t.map nD ∧ ∀ a ∈ t, a < k
  | [], _ => ⟨[], rfl, fun _ h => nomatch h⟩
  | d :: ts, h => by
    rw [List.all_cons, Bool.and_eq_true] at h
    obtain ⟨a, rfl, ha⟩ := pos_nat h.1
    obtain ⟨t, rfl, ht⟩ := pos_all h.2
    exact ⟨a :: t, rfl, fun b hb => by
      rcases List.mem_cons.mp hb with rfl | hb
      · exact ha
      · exact ht b hb⟩
theorem isi_tuple (d : PyData) : isiD "tuple" d = some ⟨.bool d.isTuple, false⟩ := rfl
theorem isi_str (d : PyData) : isiD "str" d = some ⟨.bool d.isStr, false⟩ := rfl
theorem tup_of {d : PyData} (h : d.isTuple = true) : ∃ ds, d = .tuple ds := by
  cases d <;> first | exact ⟨_, rfl⟩ | cases h
theorem str_of {d : PyData} (h : d.isStr = true) : ∃ s, d = .str s := by
  cases d <;> first | exact ⟨_, rfl⟩ | cases h
theorem len_tup (ds : List PyData) : lenF [.tuple ds] = some ⟨nD ds.length, false⟩ := rfl
section
variable {n : Nat} {F : Nat → Nat → Int} {m : List Nat} {s : Nat} {ms : List (List Nat)}
/-! the law's own look -/
def atB (v : PyData) (many most : Nat) : Bool := match v with
  | .tuple ds => decide (ds.length = many) && ds.all fun d => posB d most
  | _ => false
theorem l_at_0 (ds : List PyData) (hl : ds.length ≤ 100) (x : Sl) (k : Nat) : c__law_are_at_0 [.vl (.tuple ds), x, .vl (nD k), .un] = some (.ok ⟨.list (ds.map fun d => .bool (posB d k)), true⟩ [.vl (.tuple ds), x, .vl (nD k), .un]) := by
  rw [c__law_are_at_0, lc_t (fun d : PyData => d) PyData.bool (fun d => some (posB d k)) (xs := ds)]
  · simp
  · simp [seqM, itemsOf]
  · intro d hd
    refine ⟨[.vl (.tuple ds), x, .vl (nD k), .vl d], ?_, by simp⟩
    cases d <;> simp [turnM, isiD, isiF, PyData.isInt, PyData.isBool, posB, leD, ltD]
  · exact big hl
  · simp
theorem k_at (v : PyData) {many k : Nat} (hm : many ≤ 100) (e : En) : runM N__law_are_at.length ps__law_are_at.length m__law_are_at [v, nD many, nD k] e = some (.ok ⟨.bool (atB v many k), false⟩ e) := runM_eq rfl rfl (by
  show Ret m__law_are_at [.vl v, .vl (nD many), .vl (nD k), .un] _
  refine ret_of (e1 := [.vl v, .vl (nD many), .vl (nD k), .un]) ?_
  rw [m__law_are_at]
  by_cases ht : v.isTuple = true
  · obtain ⟨ds, rfl⟩ := tup_of ht
    have hl := len_tup ds
    by_cases hn : ds.length = many
    · have l := l_at_0 ds (by omega) (.vl (nD many)) k
      have a := alls_comp (fun d => posB d k) ds
      have e0 : atB (.tuple ds) many k = ds.all fun d => posB d k := by simp [atB, hn]
      rw [e0]
      generalize (ds.map fun d => PyData.bool (posB d k)) = z at *
      generalize (ds.all fun d => posB d k) = b at *
      rw [run_then (e1 := [.vl (.tuple ds), .vl (nD many), .vl (nD k), .un]) (by simp [isi_tuple, ht, hl, hn])]
      exact run_thenR (run_ret (by simp [l, a]))
    · have e0 : atB (.tuple ds) many k = false := by simp [atB, hn]
      rw [e0]
      have hn2 : ¬ (ds.length : Int) = (many : Int) := by omega
      exact run_thenR (by simp [isi_tuple, ht, hl, hn2])
  · have e0 : atB v many k = false := by
      cases v <;> first | rfl | exact absurd rfl ht
    rw [e0]
    exact run_thenR (by simp [isi_tuple, ht]))
theorem at_nat {v : PyData} {many k : Nat} (h : atB v many k = true) : ∃ t : List Nat, v = mD t ∧ t.length = many ∧ ∀ a ∈ t, a < k := by
  cases v <;> try (simp [atB] at h)
  rename_i ds
  obtain ⟨t, rfl, ht⟩ := pos_all (k := k) (ts := ds) (by simpa using h.2)
  exact ⟨t, rfl, by simpa using h.1, ht⟩
theorem nat_at {t : List Nat} {k : Nat} (h : ∀ a ∈ t, a < k) : atB (mD t) t.length k = true := by
  simp only [atB, List.length_map, decide_true, Bool.true_and, List.all_map, List.all_eq_true]
  intro a ha
  simpa using h a ha
/-! the program's look at a way -/
theorem l_w0 (x y : PyData) (a b c g : Sl) : c_way_is_right_0 [a, b, .vl (.tuple [x, y]), c, g, .un, .un, .un, .un] = some (.ok ⟨.list [.bool x.isTuple, .bool y.isTuple], true⟩ [a, b, .vl (.tuple [x, y]), c, g, .un, .un, .un, .un]) := by
  rw [c_way_is_right_0, lc_t (fun d : PyData => d) PyData.bool (fun d => some d.isTuple) (xs := [x, y])]
  · simp
  · simp [seqM, itemsOf]
  · intro d hd
    exact ⟨[a, b, .vl (.tuple [x, y]), c, g, .vl d, .un, .un, .un], by simp [turnM, isi_tuple], by simp⟩
  · exact (by decide : 2 ≤ most)
  · simp
theorem l_w1 {L : Nat} {md : PyData} (lm : lenF [md] = some ⟨nD L, false⟩) (ts : List PyData) (hl : ts.length ≤ 100) (a c d : Sl) : c_way_is_right_1 [a, .vl md, c, .vl (.tuple ts), d, .un, .un, .un, .un] = some (.ok ⟨.list (ts.map fun d => .bool (posB d L)), true⟩ [a, .vl md, c, .vl (.tuple ts), d, .un, .un, .un, .un]) := by
  rw [c_way_is_right_1, lc_t (fun d : PyData => d) PyData.bool (fun d => some (posB d L)) (xs := ts)]
  · simp
  · simp [seqM, itemsOf]
  · intro x hx
    exact ⟨[a, .vl md, c, .vl (.tuple ts), d, .un, .vl x, .un, .un], by simp [turnM, lm], by simp⟩
  · exact big hl
  · simp
theorem l_w2 {L : Nat} {fd : PyData} (lm : lenF [fd] = some ⟨nD L, false⟩) (ts : List PyData) (hl : ts.length ≤ 100) (a c d : Sl) : c_way_is_right_2 [.vl fd, a, c, d, .vl (.tuple ts), .un, .un, .un, .un] = some (.ok ⟨.list (ts.map fun d => .bool (posB d L)), true⟩ [.vl fd, a, c, d, .vl (.tuple ts), .un, .un, .un, .un]) := by
  rw [c_way_is_right_2, lc_t (fun d : PyData => d) PyData.bool (fun d => some (posB d L)) (xs := ts)]
  · simp
  · simp [seqM, itemsOf]
  · intro x hx
    exact ⟨[.vl fd, a, c, d, .vl (.tuple ts), .un, .un, .vl x, .un], by simp [turnM, lm], by simp⟩
  · exact big hl
  · simp
def inT (ms : List (List Nat)) (t : List Nat) : Bool := t.zipIdx.all fun p => decide (p.2 ∈ ms.getD p.1 [])
def inR (ms : List (List Nat)) (r : List Nat) : Bool := (r.zip ms).all fun p => decide (p.1 ∈ p.2)
theorem l_w3 {t : List Nat} (ht : ∀ a ∈ t, a < ms.length) (hl : t.length ≤ 100) (x z b : Sl) : c_way_is_right_3 [x, .vl (msD ms), z, .vl (mD t), b, .un, .un, .un, .un] = some (.ok ⟨.list (t.zipIdx.map fun p => .bool (decide (p.2 ∈ ms.getD p.1 []))), true⟩ [x, .vl (msD ms), z, .vl (mD t), b, .un, .un, .un, .un]) := by
  rw [c_way_is_right_3, lc_t (fun p : Nat × Nat => PyData.tuple [nD p.2, nD p.1]) PyData.bool (fun p => some (decide (p.2 ∈ ms.getD p.1 []))) (xs := t.zipIdx)]
  · simp
  · simp [enumM, seqM, itemsOf]
  · intro p hp
    have h1 : p.1 < ms.length := ht _ (by
      obtain ⟨a, i⟩ := p
      exact List.fst_mem_of_mem_zipIdx hp)
    have h3 := idx_msD h1
    generalize ms.getD p.1 [] = m at *
    exact ⟨[x, .vl (msD ms), z, .vl (mD t), b, .un, .vl (nD p.1), .vl (nD p.2), .un], by simp [turnM, -idx_tup, h3], by simp⟩
  · exact big (by rw [List.length_zipIdx]; exact hl)
  · simp
theorem l_w4 {r : List Nat} (hl : r.length ≤ 100) (x z a : Sl) : c_way_is_right_4 [x, .vl (msD ms), z, a, .vl (mD r), .un, .un, .un, .un] = some (.ok ⟨.list ((r.zip ms).map fun p => .bool (decide (p.1 ∈ p.2))), true⟩ [x, .vl (msD ms), z, a, .vl (mD r), .un, .un, .un, .un]) := by
  rw [c_way_is_right_4, lc_t (fun p : Nat × List Nat => PyData.tuple [nD p.1, mD p.2]) PyData.bool (fun p => some (decide (p.1 ∈ p.2))) (xs := r.zip ms)]
  · simp
  · simp [zipM, itemsOf, List.zip_eq_zipWith, List.map_zipWith]
  · intro p hp
    exact ⟨[x, .vl (msD ms), z, a, .vl (mD r), .un, .un, .vl (nD p.1), .vl (mD p.2)], by simp [turnM], by simp⟩
  · exact zip_len hl
  · simp
/-- any value as a way -/
def wayB (n : Nat) (ms : List (List Nat)) (v : PyData) : Option (List Nat × List Nat) := match v with
  | .tuple [x, y] => if atB x n ms.length = true ∧ atB y ms.length n = true then some (natsOf x, natsOf y) else none
  | _ => none
where natsOf : PyData → List Nat
  | .tuple ds => ds.map fun d => match d with | .int i => i.toNat | _ => 0
  | _ => []
theorem nats_mD (t : List Nat) : wayB.natsOf (mD t) = t := by
  simp [wayB.natsOf, Function.comp_def]
theorem wayB_some {v : PyData} {t r : List Nat} (h : wayB n ms v = some (t, r)) : v = wayV t r ∧ Way n ms t r := by
  unfold wayB at h
  split at h
  · rename_i x y
    split at h
    · rename_i c
      obtain ⟨t', rfl, e1, e2⟩ := at_nat c.1
      obtain ⟨r', rfl, e3, e4⟩ := at_nat c.2
      rw [nats_mD, nats_mD] at h
      cases h
      exact ⟨rfl, ⟨e1, e3, e2, e4⟩⟩
    · cases h
  · cases h
end
end Lw

set_option Elab.async false
set_option linter.all false
set_option maxRecDepth 100000
set_option maxHeartbeats 4000000
namespace Lw
open PySem PySem.Spec L2 Ev
section
variable {n : Nat} {F : Nat → Nat → Int} {m : List Nat} {s : Nat} {ms : List (List Nat)}
def wayOkB (n : Nat) (ms : List (List Nat)) (v : PyData) : Bool := match wayB n ms v with
  | some (t, r) => inT ms t && inR ms r
  | none => false
theorem wayOk_not {x y : PyData} (h : ¬ (atB x n ms.length = true ∧ atB y ms.length n = true)) : wayOkB n ms (.tuple [x, y]) = false := by
  have : wayB n ms (.tuple [x, y]) = none := if_neg h
  unfold wayOkB
  rw [this]
theorem ret_false {c : M Bool} {rest : M Fl} {e e1 : En} (h : c e = some (.ok true e1)) : thenM (ifM c (thenM (retM (pure ⟨.bool false, false⟩)) (pure .nx)) (pure .nx)) rest e = some (.ok (.rt ⟨.bool false, false⟩) e1) :=
  run_thenR (by rw [run_if h, if_pos rfl]; exact run_thenR (run_ret rfl))
theorem ret_pass {c : M Bool} {rest : M Fl} {e e1 : En} (h : c e = some (.ok false e1)) : thenM (ifM c (thenM (retM (pure ⟨.bool false, false⟩)) (pure .nx)) (pure .nx)) rest e = rest e1 :=
  run_then (by rw [run_if h, if_neg (by simp)]; exact (rfl))
theorem gen_way (h : Good n ms) (v : PyData) (e : En) : runM N_way_is_right.length ps_way_is_right.length m_way_is_right [facesD n F, msD ms, v] e = some (.ok ⟨.bool (wayOkB n ms v), false⟩ e) := runM_eq rfl rfl (by
  have l0 : lenF [facesD n F] = some ⟨nD n, false⟩ := by simp [lenF]
  have l1 : lenF [msD ms] = some ⟨nD ms.length, false⟩ := by simp [lenF]
  have n4 := h.n4
  have l15 := h.l15
  have w3 := fun (t : List Nat) ht hl => l_w3 (ms := ms) (t := t) ht hl (.vl (facesD n F))
  have w4 := fun (r : List Nat) hl => l_w4 (ms := ms) (r := r) hl (.vl (facesD n F))
  show Ret m_way_is_right [.vl (facesD n F), .vl (msD ms), .vl v, .un, .un, .un, .un, .un, .un] _
  generalize facesD n F = fd at *
  by_cases ht : v.isTuple = true
  · obtain ⟨ds, rfl⟩ := tup_of ht
    have hl := len_tup ds
    by_cases hn : ds.length = 2
    · obtain ⟨x, y, rfl⟩ : ∃ x y, ds = [x, y] := by
        match ds, hn with
        | [x, y], _ => exact ⟨x, y, rfl⟩
      have a0 : allF [.list [.bool x.isTuple, .bool y.isTuple]] = some ⟨.bool (x.isTuple && y.isTuple), false⟩ := by
        have := alls_comp (fun d : PyData => d.isTuple) [x, y]
        simpa using this
      have b1 := l_w0 x y (.vl fd) (.vl (msD ms)) .un .un
      by_cases hx : (x.isTuple && y.isTuple) = true
      · obtain ⟨hx1, hx2⟩ := Bool.and_eq_true_iff.mp hx
        obtain ⟨ts, rfl⟩ := tup_of hx1
        obtain ⟨rs, rfl⟩ := tup_of hx2
        rw [hx] at a0
        have lt := len_tup ts
        have lr := len_tup rs
        have s1 : (Ev.orM (Ev.notM (asB (op1 (isiD "tuple") (readO 2)))) (Ev.orM (asB (op2 (cmpD .ne) (toO (op1L lenF (readO 2))) (toO (pure ⟨.int 2, false⟩)))) (Ev.notM (asB (op1L allF (toO (c_way_is_right_0))))))) [.vl fd, .vl (msD ms), .vl (.tuple [.tuple ts, .tuple rs]), .un, .un, .un, .un, .un, .un] = some (.ok false [.vl fd, .vl (msD ms), .vl (.tuple [.tuple ts, .tuple rs]), .un, .un, .un, .un, .un, .un]) := by
          generalize msD ms = md at *
          generalize PyData.list [.bool (PyData.tuple ts).isTuple, .bool (PyData.tuple rs).isTuple] = z at *
          generalize PyData.tuple [.tuple ts, .tuple rs] = v at *
          simp [isi_tuple, ht, hl, b1, a0]
        have s2 : bindM (readV 2) (tupT 2 (consM (nameM 3) (consM (nameM 4) (nilM)))) [.vl fd, .vl (msD ms), .vl (.tuple [.tuple ts, .tuple rs]), .un, .un, .un, .un, .un, .un] = some (.ok .nx [.vl fd, .vl (msD ms), .vl (.tuple [.tuple ts, .tuple rs]), .vl (.tuple ts), .vl (.tuple rs), .un, .un, .un, .un]) := by
          generalize msD ms = md at *
          simp
        have go : ∃ e1, m_way_is_right [.vl fd, .vl (msD ms), .vl (.tuple [.tuple ts, .tuple rs]), .un, .un, .un, .un, .un, .un] = some (.ok (.rt ⟨.bool (wayOkB n ms (.tuple [.tuple ts, .tuple rs])), false⟩) e1) := by
          rw [m_way_is_right, ret_pass s1, run_then s2]
          by_cases hle : ts.length = n ∧ rs.length = ms.length
          · have s3 : (Ev.orM (asB (op2 (cmpD .ne) (toO (op1L lenF (readO 3))) (toO (op1L lenF (readO 0))))) (asB (op2 (cmpD .ne) (toO (op1L lenF (readO 4))) (toO (op1L lenF (readO 1)))))) [.vl fd, .vl (msD ms), .vl (.tuple [.tuple ts, .tuple rs]), .vl (.tuple ts), .vl (.tuple rs), .un, .un, .un, .un] = some (.ok false [.vl fd, .vl (msD ms), .vl (.tuple [.tuple ts, .tuple rs]), .vl (.tuple ts), .vl (.tuple rs), .un, .un, .un, .un]) := by
              generalize msD ms = md at *
              simp [lt, lr, l0, l1, hle.1, hle.2]
            rw [ret_pass s3]
            have c1 := l_w1 l1 ts (by omega) (.vl fd) (.vl (.tuple [.tuple ts, .tuple rs])) (.vl (.tuple rs))
            have a1 := alls_comp (fun d => posB d ms.length) ts
            have c2 := l_w2 l0 rs (by omega) (.vl (msD ms)) (.vl (.tuple [.tuple ts, .tuple rs])) (.vl (.tuple ts))
            have a2 := alls_comp (fun d => posB d n) rs
            have t1 : (Ev.notM (asB (op1L allF (toO (c_way_is_right_1))))) [.vl fd, .vl (msD ms), .vl (.tuple [.tuple ts, .tuple rs]), .vl (.tuple ts), .vl (.tuple rs), .un, .un, .un, .un] = some (.ok (!ts.all fun d => posB d ms.length) [.vl fd, .vl (msD ms), .vl (.tuple [.tuple ts, .tuple rs]), .vl (.tuple ts), .vl (.tuple rs), .un, .un, .un, .un]) := by
              generalize (ts.map fun d => PyData.bool (posB d ms.length)) = z at *
              generalize (ts.all fun d => posB d ms.length) = b at *
              generalize msD ms = md at *
              simp [c1, a1]
            have t2 : (Ev.notM (asB (op1L allF (toO (c_way_is_right_2))))) [.vl fd, .vl (msD ms), .vl (.tuple [.tuple ts, .tuple rs]), .vl (.tuple ts), .vl (.tuple rs), .un, .un, .un, .un] = some (.ok (!rs.all fun d => posB d n) [.vl fd, .vl (msD ms), .vl (.tuple [.tuple ts, .tuple rs]), .vl (.tuple ts), .vl (.tuple rs), .un, .un, .un, .un]) := by
              generalize (rs.map fun d => PyData.bool (posB d n)) = z at *
              generalize (rs.all fun d => posB d n) = b at *
              generalize msD ms = md at *
              simp [c2, a2]
            by_cases p1 : (ts.all fun d => posB d ms.length) = true
            · rw [p1] at t1
              rw [ret_pass t1]
              by_cases p2 : (rs.all fun d => posB d n) = true
              · rw [p2] at t2
                rw [ret_pass t2]
                obtain ⟨t, rfl, hta⟩ := pos_all p1
                obtain ⟨r, rfl, hr⟩ := pos_all p2
                have e1 : atB (mD t) n ms.length = true := by
                  have := nat_at hta
                  have tl : t.length = n := by simpa using hle.1
                  rw [tl] at this
                  exact this
                have e2 : atB (mD r) ms.length n = true := by
                  have := nat_at hr
                  have rl : r.length = ms.length := by simpa using hle.2
                  rw [rl] at this
                  exact this
                have ew : wayOkB n ms (.tuple [mD t, mD r]) = (inT ms t && inR ms r) := by
                  simp only [wayOkB, wayB, e1, e2, and_self, if_true, nats_mD]
                have c3 := w3 t hta (by simp at hle; omega) (.vl (.tuple [mD t, mD r])) (.vl (mD r))
                have c4 := w4 r (by simp at hle; omega) (.vl (.tuple [mD t, mD r])) (.vl (mD t))
                have a3 : allF [.list (t.zipIdx.map fun p => PyData.bool (decide (p.2 ∈ ms.getD p.1 [])))] = some ⟨.bool (inT ms t), false⟩ := alls_comp (fun p : Nat × Nat => decide (p.2 ∈ ms.getD p.1 [])) t.zipIdx
                have a4 : allF [.list ((r.zip ms).map fun p => PyData.bool (decide (p.1 ∈ p.2)))] = some ⟨.bool (inR ms r), false⟩ := alls_comp (fun p : Nat × List Nat => decide (p.1 ∈ p.2)) (r.zip ms)
                rw [ew]
                have t3 : (Ev.notM (asB (op1L allF (toO (c_way_is_right_3))))) [.vl fd, .vl (msD ms), .vl (.tuple [mD t, mD r]), .vl (mD t), .vl (mD r), .un, .un, .un, .un] = some (.ok (!inT ms t) [.vl fd, .vl (msD ms), .vl (.tuple [mD t, mD r]), .vl (mD t), .vl (mD r), .un, .un, .un, .un]) := by
                  generalize (t.zipIdx.map fun p => PyData.bool (decide (p.2 ∈ ms.getD p.1 []))) = z at *
                  generalize inT ms t = b at *
                  generalize msD ms = md at *
                  generalize mD t = td at *
                  generalize mD r = rd at *
                  generalize PyData.tuple [td, rd] = v at *
                  simp [c3, a3]
                cases q : inT ms t with
                | false =>
                  rw [q] at t3
                  exact ⟨_, ret_false t3⟩
                | true =>
                  rw [q] at t3
                  rw [ret_pass t3, Bool.true_and]
                  generalize ((r.zip ms).map fun p => PyData.bool (decide (p.1 ∈ p.2))) = z at *
                  generalize inR ms r = b at *
                  generalize msD ms = md at *
                  generalize mD t = td at *
                  generalize mD r = rd at *
                  generalize PyData.tuple [td, rd] = v at *
                  exact ⟨[.vl fd, .vl md, .vl v, .vl td, .vl rd, .un, .un, .un, .un], run_thenR (run_ret (by simp [c4, a4]))⟩
              · have p2' : (rs.all fun d => posB d n) = false := by simpa using p2
                rw [p2'] at t2
                have ew : wayOkB n ms (.tuple [.tuple ts, .tuple rs]) = false := by simp [wayOkB, wayB, atB, p2']
                rw [ew]
                exact ⟨_, ret_false t2⟩
            · have p1' : (ts.all fun d => posB d ms.length) = false := by simpa using p1
              rw [p1'] at t1
              have ew : wayOkB n ms (.tuple [.tuple ts, .tuple rs]) = false := by simp [wayOkB, wayB, atB, p1']
              rw [ew]
              exact ⟨_, ret_false t1⟩
          · have ew : wayOkB n ms (.tuple [.tuple ts, .tuple rs]) = false := wayOk_not (by
              rintro ⟨a, b⟩
              simp only [atB] at a b
              rw [Bool.and_eq_true, decide_eq_true_eq] at a b
              exact hle ⟨a.1, b.1⟩)
            rw [ew]
            have s3 : (Ev.orM (asB (op2 (cmpD .ne) (toO (op1L lenF (readO 3))) (toO (op1L lenF (readO 0))))) (asB (op2 (cmpD .ne) (toO (op1L lenF (readO 4))) (toO (op1L lenF (readO 1)))))) [.vl fd, .vl (msD ms), .vl (.tuple [.tuple ts, .tuple rs]), .vl (.tuple ts), .vl (.tuple rs), .un, .un, .un, .un] = some (.ok true [.vl fd, .vl (msD ms), .vl (.tuple [.tuple ts, .tuple rs]), .vl (.tuple ts), .vl (.tuple rs), .un, .un, .un, .un]) := by
              generalize msD ms = md at *
              by_cases c : ts.length = n
              · have c2 : ¬ (rs.length : Int) = (ms.length : Int) := by omega
                simp [lt, lr, l0, l1, c, c2]
              · have c2 : ¬ (ts.length : Int) = (n : Int) := by omega
                simp [lt, lr, l0, l1, c2]
            exact ⟨_, ret_false s3⟩
        obtain ⟨e1, he⟩ := go
        exact ret_of he
      · have hx' : (x.isTuple && y.isTuple) = false := by simpa using hx
        rw [hx'] at a0
        have ew : wayOkB n ms (.tuple [x, y]) = false := wayOk_not (by
          rintro ⟨a, b⟩
          obtain ⟨t, rfl, _⟩ := at_nat a
          obtain ⟨r, rfl, _⟩ := at_nat b
          exact hx rfl)
        refine ret_of (e1 := [.vl fd, .vl (msD ms), .vl (.tuple [x, y]), .un, .un, .un, .un, .un, .un]) ?_
        rw [m_way_is_right, ew]
        refine ret_false ?_
        generalize msD ms = md at *
        generalize PyData.list [.bool x.isTuple, .bool y.isTuple] = z at *
        generalize PyData.tuple [x, y] = v at *
        simp [isi_tuple, ht, hl, b1, a0]
    · have ew : wayOkB n ms (.tuple ds) = false := by
        unfold wayOkB wayB
        split
        · rename_i h'
          split at h'
          · rename_i e'
            cases e'
            exact absurd rfl hn
          · cases h'
        · rfl
      refine ret_of (e1 := [.vl fd, .vl (msD ms), .vl (.tuple ds), .un, .un, .un, .un, .un, .un]) ?_
      rw [m_way_is_right, ew]
      refine ret_false ?_
      have hn2 : ¬ (ds.length : Int) = 2 := by omega
      generalize msD ms = md at *
      simp [isi_tuple, ht, hl, hn2]
  · have ew : wayOkB n ms v = false := by
      cases v <;> first | rfl | exact absurd rfl ht
    refine ret_of (e1 := [.vl fd, .vl (msD ms), .vl v, .un, .un, .un, .un, .un, .un]) ?_
    rw [m_way_is_right, ew]
    refine ret_false ?_
    generalize msD ms = md at *
    simp [isi_tuple, ht])
end
end Lw

set_option Elab.async false
set_option linter.all false
set_option maxRecDepth 100000
set_option maxHeartbeats 4000000
namespace Lw
open PySem PySem.Spec L2 Ev
section
variable {n : Nat} {F : Nat → Nat → Int} {m : List Nat} {s : Nat} {ms : List (List Nat)}
theorem eqD_pp (g : List (Nat × Nat)) : eqD (.list (g.map ppD)) (.list []) = some (decide (g = [])) := by
  have s : SeqAt.shaped (.list (g.map ppD)) = true := by
    unfold SeqAt.shaped
    rw [Bool.and_eq_true]
    refine ⟨canLay_map ppD (fun _ => rfl) g, decide_eq_true ?_⟩
    have := depth_map ppD 1 (fun p => Nat.le_refl _) g
    simp only [PyData.depth]
    omega
  have : PyData.eqv (.list (g.map ppD)) (.list []) = decide (g = []) := by cases g <;> rfl
  simp [eqD, s, this]
def backB (t r : List Nat) : Bool := t.zipIdx.all fun p => decide (r.getD p.1 0 = p.2)
theorem l_x0 {t r : List Nat} (w : Way n ms t r) (h : Good n ms) (x y z : Sl) : c_is_exact_0 [x, y, z, .vl (mD t), .vl (mD r), .un, .un] = some (.ok ⟨.list (t.zipIdx.map fun p => .bool (decide (r.getD p.1 0 = p.2))), true⟩ [x, y, z, .vl (mD t), .vl (mD r), .un, .un]) := by
  rw [c_is_exact_0, lc_t (fun p : Nat × Nat => PyData.tuple [nD p.2, nD p.1]) PyData.bool (fun p => some (decide (r.getD p.1 0 = p.2))) (xs := t.zipIdx)]
  · simp
  · simp [enumM, seqM, itemsOf]
  · intro p hp
    have h1 : p.1 < ms.length := w.ta _ (by
      obtain ⟨a, i⟩ := p
      exact List.fst_mem_of_mem_zipIdx hp)
    have h3 := idx_mD (t := r) (i := p.1) (by rw [w.rl]; exact h1)
    have h4 := eq_nD (r.getD p.1 0) p.2
    generalize r.getD p.1 0 = u at *
    exact ⟨[x, y, z, .vl (mD t), .vl (mD r), .vl (nD p.2), .vl (nD p.1)], (by simp [turnM, -idx_tup, h3]; omega), by simp⟩
  · exact big (by rw [List.length_zipIdx, w.tl]; exact h.nle)
  · simp
/-- any value as an exact way -/
def exactB (n : Nat) (F : Nat → Nat → Int) (ms : List (List Nat)) (v : PyData) : Bool := match wayB n ms v with
  | some (t, r) => inT ms t && inR ms r && decide (gainL n F ms t r = []) && decide (cnt t = t.length) && backB t r
  | none => false
theorem gen_exact (hf : Small n F) (h : Fine n ms) (v : PyData) (e : En) : runM N_is_exact.length ps_is_exact.length m_is_exact [facesD n F, msD ms, v] e = some (.ok ⟨.bool (exactB n F ms v), false⟩ e) := runM_eq rfl rfl (by
  have kw := gen_way (F := F) h.toGood v
  have kc := k_check_both hf h
  show Ret m_is_exact [.vl (facesD n F), .vl (msD ms), .vl v, .un, .un, .un, .un] _
  have s1 : ∀ rest : M Fl, thenM (dropM (callM N_check_both.length ps_check_both.length m_check_both (do let d ← valM (readV 0); let ds ← (do let d ← valM (readV 1); let ds ← (pure []); pure (d :: ds)); pure (d :: ds)))) rest [.vl (facesD n F), .vl (msD ms), .vl v, .un, .un, .un, .un] = rest [.vl (facesD n F), .vl (msD ms), .vl v, .un, .un, .un, .un] := fun rest => run_then (by
      generalize facesD n F = fd at *
      generalize msD ms = md at *
      simp [kc])
  cases q : wayB n ms v with
  | none =>
    have e1 : wayOkB n ms v = false := by unfold wayOkB; rw [q]
    have e2 : exactB n F ms v = false := by unfold exactB; rw [q]
    rw [e1] at kw
    rw [e2]
    refine ret_of (e1 := [.vl (facesD n F), .vl (msD ms), .vl v, .un, .un, .un, .un]) ?_
    rw [m_is_exact, s1]
    refine ret_false ?_
    generalize facesD n F = fd at *
    generalize msD ms = md at *
    simp [kw]
  | some p =>
    obtain ⟨t, r⟩ := p
    obtain ⟨rfl, w⟩ := wayB_some q
    have e1 : wayOkB n ms (wayV t r) = (inT ms t && inR ms r) := by unfold wayOkB; rw [q]
    have e2 : exactB n F ms (wayV t r) = (inT ms t && inR ms r && decide (gainL n F ms t r = []) && decide (cnt t = t.length) && backB t r) := by unfold exactB; rw [q]
    have kg := gen_gains_of (F := F) h.toGood w
    have eg := eqD_pp (gainL n F ms t r)
    rw [e1] at kw
    rw [e2]
    have s3 : bindM (readV 2) (tupT 2 (consM (nameM 3) (consM (nameM 4) (nilM)))) [.vl (facesD n F), .vl (msD ms), .vl (wayV t r), .un, .un, .un, .un] = some (.ok .nx [.vl (facesD n F), .vl (msD ms), .vl (wayV t r), .vl (mD t), .vl (mD r), .un, .un]) := by simp
    have c0 := l_x0 w h.toGood (.vl (facesD n F)) (.vl (msD ms)) (.vl (wayV t r))
    have a0 : allF [.list (t.zipIdx.map fun p => PyData.bool (decide (r.getD p.1 0 = p.2)))] = some ⟨.bool (backB t r), false⟩ := alls_comp (fun p : Nat × Nat => decide (r.getD p.1 0 = p.2)) t.zipIdx
    have ls := lenSet_mD (t := t) (by have := w.tl; have := h.n4; omega)
    have lt : lenF [mD t] = some ⟨nD t.length, false⟩ := by simp [lenF]
    have en : eqD (nD (cnt t)) (nD t.length) = some (decide (cnt t = t.length)) := eq_nD _ _
    have go : ∃ e1, m_is_exact [.vl (facesD n F), .vl (msD ms), .vl (wayV t r), .un, .un, .un, .un] = some (.ok (.rt ⟨.bool (inT ms t && inR ms r && decide (gainL n F ms t r = []) && decide (cnt t = t.length) && backB t r), false⟩) e1) := by
      have c1 : (Ev.orM (Ev.notM (asB (callM N_way_is_right.length ps_way_is_right.length m_way_is_right (do let d ← valM (readV 0); let ds ← (do let d ← valM (readV 1); let ds ← (do let d ← valM (readV 2); let ds ← (pure []); pure (d :: ds)); pure (d :: ds)); pure (d :: ds))))) (asB (op2 (cmpD .ne) (toO (callM N_gains_of.length ps_gains_of.length m_gains_of (do let d ← valM (readV 0); let ds ← (do let d ← valM (readV 1); let ds ← (do let d ← valM (readV 2); let ds ← (pure []); pure (d :: ds)); pure (d :: ds)); pure (d :: ds)))) (toO (lstM (pure [])))))) [.vl (facesD n F), .vl (msD ms), .vl (wayV t r), .un, .un, .un, .un] = some (.ok (!(inT ms t && inR ms r && decide (gainL n F ms t r = []))) [.vl (facesD n F), .vl (msD ms), .vl (wayV t r), .un, .un, .un, .un]) := by
        generalize (inT ms t && inR ms r) = b1 at *
        generalize decide (gainL n F ms t r = []) = b2 at *
        generalize (gainL n F ms t r).map ppD = g at *
        generalize facesD n F = fd at *
        generalize msD ms = md at *
        generalize wayV t r = v at *
        cases b1 <;> simp [kw, kg, eg]
      rw [m_is_exact, s1]
      cases q1 : (inT ms t && inR ms r && decide (gainL n F ms t r = [])) with
      | false =>
        rw [q1] at c1
        exact ⟨_, ret_false c1⟩
      | true =>
        rw [q1] at c1
        rw [ret_pass c1, run_then s3, Bool.true_and]
        generalize decide (cnt t = t.length) = b1 at *
        generalize backB t r = b2 at *
        generalize (t.zipIdx.map fun p => PyData.bool (decide (r.getD p.1 0 = p.2))) = z at *
        generalize nD (cnt t) = z1 at *
        generalize nD t.length = z2 at *
        generalize facesD n F = fd at *
        generalize msD ms = md at *
        generalize wayV t r = v at *
        generalize mD t = td at *
        generalize mD r = rd at *
        refine ⟨[.vl fd, .vl md, .vl v, .vl td, .vl rd, .un, .un], run_thenR (run_ret ?_)⟩
        cases b1 <;> simp [ls, lt, en, c0, a0]
    obtain ⟨e1, he⟩ := go
    exact ret_of he)
end
end Lw

set_option Elab.async false
set_option linter.all false
set_option maxRecDepth 100000
set_option maxHeartbeats 4000000
namespace Lw
open PySem PySem.Spec L2 Ev
section
variable {n : Nat} {F : Nat → Nat → Int} {m : List Nat} {s : Nat} {ms : List (List Nat)}
theorem m_0 {t : List Nat} (ht : ∀ a ∈ t, a < ms.length) (hl : t.length ≤ 100) (x z b : Sl) : c__law_is_exact_0 [x, .vl (msD ms), z, .vl (mD t), b, .un, .un, .un] = some (.ok ⟨.list (t.zipIdx.map fun p => .bool (decide (p.2 ∈ ms.getD p.1 []))), true⟩ [x, .vl (msD ms), z, .vl (mD t), b, .un, .un, .un]) := by
  rw [c__law_is_exact_0, lc_t (fun p : Nat × Nat => PyData.tuple [nD p.2, nD p.1]) PyData.bool (fun p => some (decide (p.2 ∈ ms.getD p.1 []))) (xs := t.zipIdx)]
  · simp
  · simp [enumM, seqM, itemsOf]
  · intro p hp
    have h1 : p.1 < ms.length := ht _ (by
      obtain ⟨a, i⟩ := p
      exact List.fst_mem_of_mem_zipIdx hp)
    have h3 := idx_msD h1
    generalize ms.getD p.1 [] = m at *
    exact ⟨[x, .vl (msD ms), z, .vl (mD t), b, .vl (nD p.2), .vl (nD p.1), .un], by simp [turnM, -idx_tup, h3], by simp⟩
  · exact big (by rw [List.length_zipIdx]; exact hl)
  · simp
theorem m_1 {r : List Nat} (hl : r.length ≤ 100) (x z a : Sl) : c__law_is_exact_1 [x, .vl (msD ms), z, a, .vl (mD r), .un, .un, .un] = some (.ok ⟨.list ((r.zip ms).map fun p => .bool (decide (p.1 ∈ p.2))), true⟩ [x, .vl (msD ms), z, a, .vl (mD r), .un, .un, .un]) := by
  rw [c__law_is_exact_1, lc_t (fun p : Nat × List Nat => PyData.tuple [nD p.1, mD p.2]) PyData.bool (fun p => some (decide (p.1 ∈ p.2))) (xs := r.zip ms)]
  · simp
  · simp [zipM, itemsOf, List.zip_eq_zipWith, List.map_zipWith]
  · intro p hp
    exact ⟨[x, .vl (msD ms), z, a, .vl (mD r), .vl (nD p.1), .un, .vl (mD p.2)], by simp [turnM], by simp⟩
  · exact zip_len hl
  · simp
def backL (t r : List Nat) : List Nat := t.map fun a => r.getD a 0
theorem m_2 {t r : List Nat} (ht : ∀ a ∈ t, a < r.length) (hl : t.length ≤ 100) (x y z : Sl) : c__law_is_exact_2 [x, y, z, .vl (mD t), .vl (mD r), .un, .un, .un] = some (.ok ⟨lnD (backL t r), true⟩ [x, y, z, .vl (mD t), .vl (mD r), .un, .un, .un]) := by
  rw [c__law_is_exact_2, lc_t nD nD (fun a => some (r.getD a 0)) (xs := t)]
  · simp [backL]
  · simp [seqM, itemsOf]
  · intro a ha
    have h3 := idx_mD (t := r) (ht a ha)
    generalize r.getD a 0 = u at *
    exact ⟨[x, y, z, .vl (mD t), .vl (mD r), .un, .vl (nD a), .un], by simp [turnM, -idx_tup, h3], by simp⟩
  · exact big hl
  · simp
def wants (F : Nat → Nat → Int) (ms : List (List Nat)) (r : List Nat) (s : Nat) : Bool := ms.zipIdx.any fun p => decide (s ∈ p.1) && decide (F s s < F s (r.getD p.2 0))
theorem m_3 {r : List Nat} (hr : r.length = ms.length) (ra : ∀ a ∈ r, a < n) (h : Good n ms) (hs : s < n) (z b : Sl) : c__law_is_exact_3 [.vl (facesD n F), .vl (msD ms), z, b, .vl (mD r), .vl (nD s), .un, .un] = some (.ok ⟨.list (ms.zipIdx.map fun p => .bool (decide (s ∈ p.1) && decide (F s s < F s (r.getD p.2 0)))), true⟩ [.vl (facesD n F), .vl (msD ms), z, b, .vl (mD r), .vl (nD s), .un, .un]) := by
  rw [c__law_is_exact_3, lc_t (fun p : List Nat × Nat => PyData.tuple [nD p.2, mD p.1]) PyData.bool (fun p => some (decide (s ∈ p.1) && decide (F s s < F s (r.getD p.2 0)))) (xs := ms.zipIdx)]
  · simp
  · simp [enumM, seqM, itemsOf]
  · intro p hp
    have hp2 : p.2 < r.length := by
      obtain ⟨x, i⟩ := p
      have := List.snd_lt_of_mem_zipIdx hp
      simp at this
      show i < r.length
      omega
    have i1 : idxD (facesD n F) (nD s) = some ⟨rowD n (F s), false⟩ := idx_faces (j := 0) hs []
    have i2 := idx_mD hp2
    have i3 := idx_row (f := F s) (getD_lt ra hp2)
    have i4 := idx_row (f := F s) hs
    generalize r.getD p.2 0 = u at *
    refine ⟨[.vl (facesD n F), .vl (msD ms), z, b, .vl (mD r), .vl (nD s), .vl (nD p.2), .vl (mD p.1)], ?_, by simp⟩
    by_cases c : s ∈ p.1
    · simp [turnM, c, -idx_tup, i1, i2, i3, i4, gtD]
    · simp [turnM, c]
  · exact big (by simpa using h.len)
  · simp
def lawExactB (n : Nat) (F : Nat → Nat → Int) (ms : List (List Nat)) (v : PyData) : Bool := match wayB n ms v with
  | some (t, r) => inT ms t && inR ms r && !(decide (cnt t < t.length)) && decide (backL t r = List.range n) && (List.range n).all fun s => !wants F ms r s
  | none => false
theorem eq_lnD (a b : List Nat) : eqD (lnD a) (lnD b) = some (decide (a = b)) := by simp [eqD]
theorem lrg_n {mo : M OV} {e : En} {o : OV} (h : mo e = some (.ok o e)) (hd : der o e = some (.ok (nD n) e)) (hn : n ≤ 100) : lrgM mo e = some (.ok ⟨lnD (List.range n), true⟩ e) := by
  rw [lrgM, rng1M, run_bind, run_bind, h, bndR_ok, run_bind, hd, bndR_ok, rngD_nat hn, run_lift_some, bndR_ok]
  rfl
theorem law_exact_run (h : Good n ms) (v : PyData) (e : En) : runM N__law_is_exact.length ps__law_is_exact.length m__law_is_exact [facesD n F, msD ms, v] e = some (.ok ⟨.bool (lawExactB n F ms v), false⟩ e) := runM_eq rfl rfl (by
  have l0 : lenF [facesD n F] = some ⟨nD n, false⟩ := by simp [lenF]
  have l1 : lenF [msD ms] = some ⟨nD ms.length, false⟩ := by simp [lenF]
  have n4 := h.n4
  have l15 := h.l15
  have ka := fun v => k_at v (many := n) (k := ms.length) (by omega)
  have kb := fun v => k_at v (many := ms.length) (k := n) (by omega)
  show Ret m__law_is_exact [.vl (facesD n F), .vl (msD ms), .vl v, .un, .un, .un, .un, .un] _
  by_cases ht : v.isTuple = true
  · obtain ⟨ds, rfl⟩ := tup_of ht
    have hl := len_tup ds
    by_cases hn : ds.length = 2
    · obtain ⟨x, y, rfl⟩ : ∃ x y, ds = [x, y] := by
        match ds, hn with
        | [x, y], _ => exact ⟨x, y, rfl⟩
      have s1 : (Ev.orM (Ev.notM (asB (op1 (isiD "tuple") (readO 2)))) (asB (op2 (cmpD .ne) (toO (op1L lenF (readO 2))) (toO (pure ⟨.int 2, false⟩))))) [.vl (facesD n F), .vl (msD ms), .vl (.tuple [x, y]), .un, .un, .un, .un, .un] = some (.ok false [.vl (facesD n F), .vl (msD ms), .vl (.tuple [x, y]), .un, .un, .un, .un, .un]) := by
        generalize facesD n F = fd at *
        generalize msD ms = md at *
        generalize PyData.tuple [x, y] = v at *
        simp [isi_tuple, ht, hl]
      have s2 : bindM (readV 2) (tupT 2 (consM (nameM 3) (consM (nameM 4) (nilM)))) [.vl (facesD n F), .vl (msD ms), .vl (.tuple [x, y]), .un, .un, .un, .un, .un] = some (.ok .nx [.vl (facesD n F), .vl (msD ms), .vl (.tuple [x, y]), .vl x, .vl y, .un, .un, .un]) := by
        generalize facesD n F = fd at *
        generalize msD ms = md at *
        simp
      have c3 : (Ev.orM (Ev.notM (asB (callM N__law_are_at.length ps__law_are_at.length m__law_are_at (do let d ← valM (readV 3); let ds ← (do let d ← valM (op1L lenF (readO 0)); let ds ← (do let d ← valM (op1L lenF (readO 1)); let ds ← (pure []); pure (d :: ds)); pure (d :: ds)); pure (d :: ds))))) (Ev.notM (asB (callM N__law_are_at.length ps__law_are_at.length m__law_are_at (do let d ← valM (readV 4); let ds ← (do let d ← valM (op1L lenF (readO 1)); let ds ← (do let d ← valM (op1L lenF (readO 0)); let ds ← (pure []); pure (d :: ds)); pure (d :: ds)); pure (d :: ds)))))) [.vl (facesD n F), .vl (msD ms), .vl (.tuple [x, y]), .vl x, .vl y, .un, .un, .un] = some (.ok (!(atB x n ms.length && atB y ms.length n)) [.vl (facesD n F), .vl (msD ms), .vl (.tuple [x, y]), .vl x, .vl y, .un, .un, .un]) := by
        have ka := ka x
        have kb := kb y
        generalize atB x n ms.length = b1 at *
        generalize atB y ms.length n = b2 at *
        generalize facesD n F = fd at *
        generalize msD ms = md at *
        generalize PyData.tuple [x, y] = v at *
        generalize nD n = z1 at *
        generalize nD ms.length = z2 at *
        cases b1 <;> simp [l0, l1, ka, kb]
      cases q : wayB n ms (.tuple [x, y]) with
      | none =>
        have q0 : (atB x n ms.length && atB y ms.length n) = false := by
          cases c : (atB x n ms.length && atB y ms.length n) with
          | false => rfl
          | true =>
            rw [Bool.and_eq_true] at c
            have : wayB n ms (.tuple [x, y]) = some (wayB.natsOf x, wayB.natsOf y) := if_pos c
            rw [this] at q
            cases q
        have e2 : lawExactB n F ms (.tuple [x, y]) = false := by unfold lawExactB; rw [q]
        rw [e2]
        rw [q0] at c3
        refine ret_of (e1 := [.vl (facesD n F), .vl (msD ms), .vl (.tuple [x, y]), .vl x, .vl y, .un, .un, .un]) ?_
        rw [m__law_is_exact, ret_pass s1, run_then s2]
        exact ret_false c3
      | some p =>
        obtain ⟨t, r⟩ := p
        obtain ⟨ev, w⟩ := wayB_some q
        have e2 : lawExactB n F ms (.tuple [x, y]) = (inT ms t && inR ms r && !(decide (cnt t < t.length)) && decide (backL t r = List.range n) && (List.range n).all fun s => !wants F ms r s) := by unfold lawExactB; rw [q]
        rw [e2]
        have ev : PyData.tuple [x, y] = .tuple [mD t, mD r] := ev
        cases ev
        have q0 : (atB (mD t) n ms.length && atB (mD r) ms.length n) = true := by
          cases c : (atB (mD t) n ms.length && atB (mD r) ms.length n) with
          | true => rfl
          | false =>
            have : wayB n ms (.tuple [mD t, mD r]) = none := if_neg (by rw [← Bool.and_eq_true, c]; simp)
            rw [this] at q
            cases q
        rw [q0] at c3
        have d0 := m_0 (ms := ms) w.ta (by have := w.tl; omega) (.vl (facesD n F)) (.vl (.tuple [mD t, mD r])) (.vl (mD r))
        have d1 := m_1 (ms := ms) (r := r) (by have := w.rl; omega) (.vl (facesD n F)) (.vl (.tuple [mD t, mD r])) (.vl (mD t))
        have d2 := m_2 (t := t) (r := r) (by rw [w.rl]; exact w.ta) (by have := w.tl; omega) (.vl (facesD n F)) (.vl (msD ms)) (.vl (.tuple [mD t, mD r]))
        have a3 : allF [.list (t.zipIdx.map fun p => PyData.bool (decide (p.2 ∈ ms.getD p.1 [])))] = some ⟨.bool (inT ms t), false⟩ := alls_comp (fun p : Nat × Nat => decide (p.2 ∈ ms.getD p.1 [])) t.zipIdx
        have a4 : allF [.list ((r.zip ms).map fun p => PyData.bool (decide (p.1 ∈ p.2)))] = some ⟨.bool (inR ms r), false⟩ := alls_comp (fun p : Nat × List Nat => decide (p.1 ∈ p.2)) (r.zip ms)
        have ls := lenSet_mD (t := t) (by have := w.tl; omega)
        have lt : lenF [mD t] = some ⟨nD t.length, false⟩ := by simp [lenF]
        have cl : ltD (nD (cnt t)) (nD t.length) = some (decide (cnt t < t.length)) := by
          show some (decide ((cnt t : Int) < (t.length : Int))) = _
          congr 1
          exact decide_eq_decide.mpr (by omega)
        have eb := eq_lnD (backL t r) (List.range n)
        have E0 : ∃ e, e = ([.vl (facesD n F), .vl (msD ms), .vl (.tuple [mD t, mD r]), .vl (mD t), .vl (mD r), .un, .un, .un] : En) := ⟨_, rfl⟩
        have c4 : (Ev.orM (Ev.notM (asB (op1L allF (toO (c__law_is_exact_0))))) (Ev.notM (asB (op1L allF (toO (c__law_is_exact_1)))))) [.vl (facesD n F), .vl (msD ms), .vl (.tuple [mD t, mD r]), .vl (mD t), .vl (mD r), .un, .un, .un] = some (.ok (!(inT ms t && inR ms r)) [.vl (facesD n F), .vl (msD ms), .vl (.tuple [mD t, mD r]), .vl (mD t), .vl (mD r), .un, .un, .un]) := by
          generalize inT ms t = b1 at *
          generalize inR ms r = b2 at *
          generalize (t.zipIdx.map fun p => PyData.bool (decide (p.2 ∈ ms.getD p.1 []))) = z1 at *
          generalize ((r.zip ms).map fun p => PyData.bool (decide (p.1 ∈ p.2))) = z2 at *
          generalize facesD n F = fd at *
          generalize msD ms = md at *
          generalize mD t = td at *
          generalize mD r = rd at *
          generalize PyData.tuple [td, rd] = v at *
          cases b1 <;> simp [d0, a3, d1, a4]
        have r5 : lrgM (toO (op1L lenF (readO 0))) [.vl (facesD n F), .vl (msD ms), .vl (.tuple [mD t, mD r]), .vl (mD t), .vl (mD r), .un, .un, .un] = some (.ok ⟨lnD (List.range n), true⟩ [.vl (facesD n F), .vl (msD ms), .vl (.tuple [mD t, mD r]), .vl (mD t), .vl (mD r), .un, .un, .un]) := lrg_n (o := .vl (nD n)) (by
          generalize facesD n F = fd at *
          generalize msD ms = md at *
          generalize mD t = td at *
          generalize mD r = rd at *
          simp [l0]) rfl (by omega)
        have c5 : (Ev.orM (asB (op2 (cmpD .lt) (toO (op1 lenSetD (readO 3))) (toO (op1L lenF (readO 3))))) (asB (op2 (cmpD .ne) (toO (c__law_is_exact_2)) (toO (lrgM (toO (op1L lenF (readO 0)))))))) [.vl (facesD n F), .vl (msD ms), .vl (.tuple [mD t, mD r]), .vl (mD t), .vl (mD r), .un, .un, .un] = some (.ok (decide (cnt t < t.length) || !decide (backL t r = List.range n)) [.vl (facesD n F), .vl (msD ms), .vl (.tuple [mD t, mD r]), .vl (mD t), .vl (mD r), .un, .un, .un]) := by
          generalize lrgM (toO (op1L lenF (readO 0))) = mm at *
          generalize decide (cnt t < t.length) = b1 at *
          generalize decide (backL t r = List.range n) = b2 at *
          generalize lnD (backL t r) = z1 at *
          generalize lnD (List.range n) = z2 at *
          generalize nD (cnt t) = z3 at *
          generalize nD t.length = z4 at *
          generalize facesD n F = fd at *
          generalize msD ms = md at *
          generalize mD t = td at *
          generalize mD r = rd at *
          generalize PyData.tuple [td, rd] = v at *
          cases b1 <;> simp [ls, lt, cl, d2, r5, eb]
        have lp := for_find (step := b__law_is_exact_0) nD (fun q : Sl => [.vl (facesD n F), .vl (msD ms), .vl (.tuple [mD t, mD r]), .vl (mD t), .vl (mD r), q, .un, .un]) (fun s => if wants F ms r s = true then some (⟨.bool false, false⟩ : RV) else none) (List.range n) .un (fun s hs q => by
          have d3 := m_3 (F := F) (s := s) w.rl w.ra h (List.mem_range.mp hs) (.vl (.tuple [mD t, mD r])) (.vl (mD t))
          have a5 : anyF [.list (ms.zipIdx.map fun p => PyData.bool (decide (s ∈ p.1) && decide (F s s < F s (r.getD p.2 0))))] = some ⟨.bool (wants F ms r s), false⟩ := anys_comp (fun p : List Nat × Nat => decide (s ∈ p.1) && decide (F s s < F s (r.getD p.2 0))) ms.zipIdx
          refine ⟨.vl (nD s), ?_⟩
          have b0 : nameM 5 (nD s) [.vl (facesD n F), .vl (msD ms), .vl (.tuple [mD t, mD r]), .vl (mD t), .vl (mD r), q, .un, .un] = some (.ok () [.vl (facesD n F), .vl (msD ms), .vl (.tuple [mD t, mD r]), .vl (mD t), .vl (mD r), .vl (nD s), .un, .un]) := by simp
          have t1 : (asB (op1L anyF (toO (c__law_is_exact_3)))) [.vl (facesD n F), .vl (msD ms), .vl (.tuple [mD t, mD r]), .vl (mD t), .vl (mD r), .vl (nD s), .un, .un] = some (.ok (wants F ms r s) [.vl (facesD n F), .vl (msD ms), .vl (.tuple [mD t, mD r]), .vl (mD t), .vl (mD r), .vl (nD s), .un, .un]) := by
            generalize (ms.zipIdx.map fun p => PyData.bool (decide (s ∈ p.1) && decide (F s s < F s (r.getD p.2 0)))) = z at *
            generalize wants F ms r s = b at *
            generalize facesD n F = fd at *
            generalize msD ms = md at *
            generalize mD t = td at *
            generalize mD r = rd at *
            generalize PyData.tuple [td, rd] = v at *
            simp [d3, a5]
          rw [b__law_is_exact_0, bodyM, run_bind, b0, bndR_ok]
          cases c : wants F ms r s with
          | true =>
            rw [c] at t1
            exact ret_false t1
          | false =>
            rw [c] at t1
            rw [ret_pass t1]
            rfl)
        obtain ⟨q', lp⟩ := lp
        have m0 : rng1M (toO (op1L lenF (readO 0))) [.vl (facesD n F), .vl (msD ms), .vl (.tuple [mD t, mD r]), .vl (mD t), .vl (mD r), .un, .un, .un] = some (.ok ((List.range n).map nD) [.vl (facesD n F), .vl (msD ms), .vl (.tuple [mD t, mD r]), .vl (mD t), .vl (mD r), .un, .un, .un]) := by
          generalize facesD n F = fd at *
          generalize msD ms = md at *
          generalize mD t = td at *
          generalize mD r = rd at *
          simp [rng1M, l0, rngD_nat h.nle]
        have f1 := run_for m0 lp
        have go : ∃ e1, m__law_is_exact [.vl (facesD n F), .vl (msD ms), .vl (.tuple [mD t, mD r]), .un, .un, .un, .un, .un] = some (.ok (.rt ⟨.bool (inT ms t && inR ms r && !(decide (cnt t < t.length)) && decide (backL t r = List.range n) && (List.range n).all fun s => !wants F ms r s), false⟩) e1) := by
          rw [m__law_is_exact, ret_pass s1, run_then s2, ret_pass c3]
          cases q1 : (inT ms t && inR ms r) with
          | false =>
            rw [q1] at c4
            exact ⟨_, ret_false c4⟩
          | true =>
            rw [q1] at c4
            rw [ret_pass c4, Bool.true_and]
            cases q2 : (decide (cnt t < t.length) || !decide (backL t r = List.range n)) with
            | true =>
              rw [q2] at c5
              have q3 : (!(decide (cnt t < t.length)) && decide (backL t r = List.range n)) = false := by
                generalize decide (cnt t < t.length) = b1 at *
                generalize decide (backL t r = List.range n) = b2 at *
                cases b1 <;> cases b2 <;> first | rfl | cases q2
              rw [q3]
              exact ⟨_, ret_false c5⟩
            | false =>
              rw [q2] at c5
              have q3 : (!(decide (cnt t < t.length)) && decide (backL t r = List.range n)) = true := by
                generalize decide (cnt t < t.length) = b1 at *
                generalize decide (backL t r = List.range n) = b2 at *
                cases b1 <;> cases b2 <;> first | rfl | cases q2
              rw [q3, Bool.true_and, ret_pass c5]
              cases q4 : (List.range n).findSome? (fun s => if wants F ms r s = true then some (⟨.bool false, false⟩ : RV) else none) with
              | some d =>
                rw [q4] at f1
                obtain ⟨s, hs, c⟩ := List.exists_of_findSome?_eq_some q4
                by_cases c2 : wants F ms r s = true
                · rw [if_pos c2] at c
                  cases c
                  have : ((List.range n).all fun s => !wants F ms r s) = false := by
                    rw [List.all_eq_false]
                    exact ⟨s, hs, by simp [c2]⟩
                  rw [this]
                  exact ⟨_, run_thenR f1⟩
                · rw [if_neg c2] at c
                  cases c
              | none =>
                rw [q4] at f1
                have : ((List.range n).all fun s => !wants F ms r s) = true := by
                  rw [List.all_eq_true]
                  intro s hs
                  have := List.findSome?_eq_none_iff.mp q4 s hs
                  cases c : wants F ms r s with
                  | false => rfl
                  | true => rw [c] at this; cases this
                rw [this]
                have f1 : Ev.forM (rng1M (toO (op1L lenF (readO 0)))) (b__law_is_exact_0) [.vl (facesD n F), .vl (msD ms), .vl (.tuple [mD t, mD r]), .vl (mD t), .vl (mD r), .un, .un, .un] = some (.ok .nx [.vl (facesD n F), .vl (msD ms), .vl (.tuple [mD t, mD r]), .vl (mD t), .vl (mD r), q', .un, .un]) := f1
                rw [run_then f1]
                exact ⟨_, run_thenR (run_ret rfl)⟩
        obtain ⟨e1, he⟩ := go
        exact ret_of he
    · have ew : lawExactB n F ms (.tuple ds) = false := by
        have : wayB n ms (.tuple ds) = none := by
          unfold wayB
          split
          · rename_i e'
            cases e'
            exact absurd rfl hn
          · rfl
        unfold lawExactB
        rw [this]
      refine ret_of (e1 := [.vl (facesD n F), .vl (msD ms), .vl (.tuple ds), .un, .un, .un, .un, .un]) ?_
      rw [m__law_is_exact, ew]
      refine ret_false ?_
      have hn2 : ¬ (ds.length : Int) = 2 := by omega
      generalize facesD n F = fd at *
      generalize msD ms = md at *
      simp [isi_tuple, ht, hl, hn2]
  · have ew : lawExactB n F ms v = false := by
      have : wayB n ms v = none := by
        cases v <;> first | rfl | exact absurd rfl ht
      unfold lawExactB
      rw [this]
    refine ret_of (e1 := [.vl (facesD n F), .vl (msD ms), .vl v, .un, .un, .un, .un, .un]) ?_
    rw [m__law_is_exact, ew]
    refine ret_false ?_
    generalize facesD n F = fd at *
    generalize msD ms = md at *
    simp [isi_tuple, ht])
end
end Lw

set_option Elab.async false
set_option linter.all false
set_option maxRecDepth 100000
set_option maxHeartbeats 4000000
namespace Lw
open PySem PySem.Spec L2 Ev
theorem uniq_len : ∀ l : List Nat, (uniq l).length ≤ l.length
  | [] => Nat.le_refl _
  | x :: l => by
    have := uniq_len l
    unfold uniq
    split
    · simp only [List.length_cons]; omega
    · simp only [List.length_cons]; omega
theorem cnt_le (t : List Nat) : cnt t ≤ t.length := by
  rw [cnt_card]
  exact uniq_len t
section
variable {n : Nat} {F : Nat → Nat → Int} {m : List Nat} {s : Nat} {ms : List (List Nat)}
theorem back_iff {t r : List Nat} (hl : t.length = n) : backB t r = true ↔ backL t r = List.range n := by
  unfold backB backL
  rw [List.all_eq_true]
  constructor
  · intro h
    refine List.ext_getElem (by simp [hl]) fun i h1 h2 => ?_
    have hi : i < t.length := by simpa using h1
    have := h (t[i], i) (List.mem_zipIdx_iff_getElem?.mpr (by simp [hi]))
    rw [List.getElem_map, List.getElem_range]
    simpa using this
  · intro h p hp
    obtain ⟨hs, e⟩ := zip_idx hp
    have h1 : (t.map fun a => r.getD a 0)[p.2]? = (List.range n)[p.2]? := by rw [h]
    have hn : p.2 < n := by omega
    simp [hs, hn] at h1
    rw [← e]
    simpa using h1
theorem exact_eq (v : PyData) : exactB n F ms v = lawExactB n F ms v := by
  unfold exactB lawExactB
  cases q : wayB n ms v with
  | none => rfl
  | some p =>
    obtain ⟨t, r⟩ := p
    obtain ⟨_, w⟩ := wayB_some q
    have c1 : decide (cnt t = t.length) = !decide (cnt t < t.length) := by
      have := cnt_le t
      by_cases h : cnt t = t.length
      · simp [h]
      · have : cnt t < t.length := by omega
        simp [h, this]
    have c2 : backB t r = decide (backL t r = List.range n) := by
      rw [Bool.eq_iff_iff, back_iff w.tl, decide_eq_true_eq]
    simp only [c1, c2]
    by_cases hb : backL t r = List.range n
    · have bk := (back_iff w.tl).mpr hb
      have c3 : decide (gainL n F ms t r = []) = (List.range n).all fun s => !wants F ms r s := by
        rw [Bool.eq_iff_iff, decide_eq_true_eq, List.all_eq_true]
        have key : ∀ s, s < n → (gain1 F ms r s (F s (r.getD (t.getD s 0) 0)) = [] ↔ wants F ms r s = false) := fun s hs => by
          have st : s < t.length := by rw [w.tl]; exact hs
          have e : r.getD (t.getD s 0) 0 = s := by
            unfold backB at bk
            rw [List.all_eq_true] at bk
            have := bk (t[s], s) (List.mem_zipIdx_iff_getElem?.mpr (by simp [st]))
            rw [getD_of st]
            simpa using this
          rw [e]
          unfold gain1 wants
          rw [List.map_eq_nil_iff, List.filter_eq_nil_iff, List.any_eq_false]
        constructor
        · intro h s hs
          have hs' := List.mem_range.mp hs
          have := (key s hs').mp (by
            unfold gainL at h
            rw [List.flatMap_eq_nil_iff] at h
            exact h s hs)
          rw [this]
          rfl
        · intro h
          unfold gainL
          rw [List.flatMap_eq_nil_iff]
          intro s hs
          have := h s hs
          exact (key s (List.mem_range.mp hs)).mpr (by simpa using this)
      rw [c3]
      generalize ((List.range n).all fun s => !wants F ms r s) = b at *
      simp only [hb, decide_true, Bool.and_true]
      cases (inT ms t && inR ms r) <;> cases b <;> simp
    · simp [hb]
/-! refusals -/
def natsOf (v : PyData) : List Nat := wayB.natsOf v
def envB (F : Nat → Nat → Int) (n : Nat) (m : List Nat) (x : PyData) : Bool := atB x m.length n && ((natsOf x).all fun o => decide (o ∈ m)) && ((natsOf x).zip m).all fun p => decide (F p.1 p.1 < F p.1 p.2)
def inMB (n : Nat) (m : List Nat) (d : PyData) : Bool := posB d n && match d with | .int i => decide (i.toNat ∈ m) | _ => false
theorem e_0 {fd : PyData} (l0 : lenF [fd] = some ⟨nD n, false⟩) (ds : List PyData) (hl : ds.length ≤ 100) : c_enviers_fit_0 [.vl fd, .vl (mD m), .vl (.tuple ds), .un, .un] = some (.ok ⟨.list (ds.map fun d => .bool (inMB n m d)), true⟩ [.vl fd, .vl (mD m), .vl (.tuple ds), .un, .un]) := by
  rw [c_enviers_fit_0, lc_t (fun d : PyData => d) PyData.bool (fun d => some (inMB n m d)) (xs := ds)]
  · simp
  · simp [seqM, itemsOf]
  · intro d hd
    refine ⟨[.vl fd, .vl (mD m), .vl (.tuple ds), .vl d, .un], ?_, by simp⟩
    by_cases c : posB d n = true
    · obtain ⟨a, rfl, ha⟩ := pos_nat c
      simp [turnM, l0, inMB, ha]
    · have c' : posB d n = false := by simpa using c
      simp [turnM, l0, inMB, c']
  · exact big hl
  · simp
theorem e_1 {o : List Nat} (hm : Msg n m) (ho : ∀ a ∈ o, a < n) (hl : o.length ≤ 100) : c_enviers_fit_1 [.vl (facesD n F), .vl (mD m), .vl (mD o), .un, .un] = some (.ok ⟨.list ((o.zip m).map fun p => .bool (decide (F p.1 p.1 < F p.1 p.2))), true⟩ [.vl (facesD n F), .vl (mD m), .vl (mD o), .un, .un]) := by
  rw [c_enviers_fit_1, lc_t (fun p : Nat × Nat => PyData.tuple [nD p.1, nD p.2]) PyData.bool (fun p => some (decide (F p.1 p.1 < F p.1 p.2))) (xs := o.zip m)]
  · simp
  · simp [zipM, itemsOf, List.zip_eq_zipWith, List.map_zipWith]
  · intro p hp
    obtain ⟨a, b⟩ := p
    have h1 := List.of_mem_zip hp
    exact ⟨[.vl (facesD n F), .vl (mD m), .vl (mD o), .vl (nD a), .vl (nD b)], by simp [turnM, k_does_envy (ho _ h1.1) (hm.lt _ h1.2)], by simp⟩
  · exact zip_len hl
  · simp
theorem inM_all {o : List Nat} : (o.map nD).all (fun d => inMB n m d) = ((o.all fun a => decide (a < n)) && o.all fun a => decide (a ∈ m)) := by
  induction o with
  | nil => rfl
  | cons a o ih =>
    rw [List.map_cons, List.all_cons, ih, List.all_cons, List.all_cons]
    simp only [inMB, posB_nD, Int.toNat_natCast]
    generalize decide (a < n) = b1
    generalize decide (a ∈ m) = b2
    generalize (o.all fun a => decide (a < n)) = b3
    generalize (o.all fun a => decide (a ∈ m)) = b4
    cases b1 <;> cases b2 <;> cases b3 <;> rfl
theorem gen_enviers (hm : Msg n m) (x : PyData) (e : En) : runM N_enviers_fit.length ps_enviers_fit.length m_enviers_fit [facesD n F, mD m, x] e = some (.ok ⟨.bool (envB F n m x), false⟩ e) := runM_eq rfl rfl (by
  have l0 : lenF [facesD n F] = some ⟨nD n, false⟩ := by simp [lenF]
  have lm : lenF [mD m] = some ⟨nD m.length, false⟩ := by simp [lenF]
  show Ret m_enviers_fit [.vl (facesD n F), .vl (mD m), .vl x, .un, .un] _
  have go : ∃ e1, m_enviers_fit [.vl (facesD n F), .vl (mD m), .vl x, .un, .un] = some (.ok (.rt ⟨.bool (envB F n m x), false⟩) e1) := by
    rw [m_enviers_fit]
    by_cases ht : x.isTuple = true
    · obtain ⟨ds, rfl⟩ := tup_of ht
      have hl := len_tup ds
      by_cases hn : ds.length = m.length
      · have c0 := e_0 (m := m) l0 ds (by rw [hn]; exact hm.len)
        have a0 := alls_comp (fun d => inMB n m d) ds
        have s1 : (Ev.orM (Ev.notM (asB (op1 (isiD "tuple") (readO 2)))) (asB (op2 (cmpD .ne) (toO (op1L lenF (readO 2))) (toO (op1L lenF (readO 1)))))) [.vl (facesD n F), .vl (mD m), .vl (.tuple ds), .un, .un] = some (.ok false [.vl (facesD n F), .vl (mD m), .vl (.tuple ds), .un, .un]) := by
          generalize facesD n F = fd at *
          generalize mD m = md at *
          simp [isi_tuple, ht, hl, lm, hn]
        rw [ret_pass s1]
        have s2 : (Ev.notM (asB (op1L allF (toO (c_enviers_fit_0))))) [.vl (facesD n F), .vl (mD m), .vl (.tuple ds), .un, .un] = some (.ok (!ds.all fun d => inMB n m d) [.vl (facesD n F), .vl (mD m), .vl (.tuple ds), .un, .un]) := by
          generalize (ds.map fun d => PyData.bool (inMB n m d)) = z at *
          generalize (ds.all fun d => inMB n m d) = b at *
          generalize facesD n F = fd at *
          generalize mD m = md at *
          simp [c0, a0]
        by_cases hp : (ds.all fun d => posB d n) = true
        · obtain ⟨o, rfl, ho⟩ := pos_all hp
          have ol : o.length = m.length := by simpa using hn
          have hat : atB (mD o) m.length n = true := by rw [← ol]; exact nat_at ho
          have al : (o.all fun a => decide (a < n)) = true := List.all_eq_true.mpr fun a ha => by simpa using ho a ha
          have en : natsOf (mD o) = o := nats_mD o
          have ee : envB F n m (mD o) = ((o.all fun a => decide (a ∈ m)) && (o.zip m).all fun p => decide (F p.1 p.1 < F p.1 p.2)) := by
            unfold envB
            rw [hat, en, Bool.true_and]
          rw [ee]
          rw [inM_all, al, Bool.true_and] at s2
          cases q : (o.all fun a => decide (a ∈ m)) with
          | false =>
            rw [q] at s2
            exact ⟨_, ret_false s2⟩
          | true =>
            rw [q] at s2
            rw [ret_pass s2, Bool.true_and]
            have c1 := e_1 (F := F) hm ho (by rw [ol]; exact hm.len)
            have a1 := alls_comp (fun p : Nat × Nat => decide (F p.1 p.1 < F p.1 p.2)) (o.zip m)
            generalize ((o.zip m).map fun p => PyData.bool (decide (F p.1 p.1 < F p.1 p.2))) = z at *
            generalize ((o.zip m).all fun p => decide (F p.1 p.1 < F p.1 p.2)) = b at *
            generalize facesD n F = fd at *
            generalize mD m = md at *
            exact ⟨[.vl fd, .vl md, .vl (mD o), .un, .un], run_thenR (run_ret (by simp [c1, a1]))⟩
        · have hp' : (ds.all fun d => posB d n) = false := by simpa using hp
          have ee : envB F n m (.tuple ds) = false := by simp [envB, atB, hp']
          have e0 : (ds.all fun d => inMB n m d) = false := by
            rw [List.all_eq_false] at hp' ⊢
            obtain ⟨d, hd, h⟩ := hp'
            refine ⟨d, hd, ?_⟩
            unfold inMB
            simp at h
            simp [h]
          rw [e0] at s2
          rw [ee]
          exact ⟨_, ret_false s2⟩
      · have ee : envB F n m (.tuple ds) = false := by simp [envB, atB, hn]
        rw [ee]
        have hn2 : ¬ (ds.length : Int) = (m.length : Int) := by omega
        refine ⟨[.vl (facesD n F), .vl (mD m), .vl (.tuple ds), .un, .un], ret_false ?_⟩
        generalize facesD n F = fd at *
        generalize mD m = md at *
        simp [isi_tuple, ht, hl, lm, hn2]
    · have ee : envB F n m x = false := by
        have : atB x m.length n = false := by cases x <;> first | rfl | exact absurd rfl ht
        simp [envB, this]
      rw [ee]
      refine ⟨[.vl (facesD n F), .vl (mD m), .vl x, .un, .un], ret_false ?_⟩
      generalize facesD n F = fd at *
      generalize mD m = md at *
      simp [isi_tuple, ht]
  obtain ⟨e1, he⟩ := go
  exact ret_of he)
/-- any value as a set of states -/
def setB (n : Nat) (x : PyData) : Bool := atB x (natsOf x).length n && !decide (natsOf x = []) && asc (natsOf x)
theorem s_0 (ds : List PyData) (hl : ds.length ≤ 100) : c_set_is_right_0 [.vl (.tuple ds), .vl (nD n), .un, .un, .un] = some (.ok ⟨.list (ds.map fun d => .bool (posB d n)), true⟩ [.vl (.tuple ds), .vl (nD n), .un, .un, .un]) := by
  rw [c_set_is_right_0, lc_t (fun d : PyData => d) PyData.bool (fun d => some (posB d n)) (xs := ds)]
  · simp
  · simp [seqM, itemsOf]
  · intro x hx
    exact ⟨[.vl (.tuple ds), .vl (nD n), .vl x, .un, .un], by simp [turnM], by simp⟩
  · exact big hl
  · simp
theorem eqD_t0 {ds : List PyData} (h : SeqAt.shaped (.tuple ds) = true) : eqD (.tuple ds) (.tuple []) = some (decide (ds = [])) := by
  have : PyData.eqv (.tuple ds) (.tuple []) = decide (ds = []) := by cases ds <;> rfl
  simp [eqD, h, this]
theorem gen_set (x : PyData) (hx : ∀ ds, x = .tuple ds → SeqAt.shaped x = true ∧ ds.length ≤ 50) (e : En) : runM N_set_is_right.length ps_set_is_right.length m_set_is_right [x, nD n] e = some (.ok ⟨.bool (setB n x), false⟩ e) := runM_eq rfl rfl (by
  show Ret m_set_is_right [.vl x, .vl (nD n), .un, .un, .un] _
  have go : ∃ e1, m_set_is_right [.vl x, .vl (nD n), .un, .un, .un] = some (.ok (.rt ⟨.bool (setB n x), false⟩) e1) := by
    rw [m_set_is_right]
    by_cases ht : x.isTuple = true
    · obtain ⟨ds, rfl⟩ := tup_of ht
      obtain ⟨sh, dl⟩ := hx ds rfl
      have e0 := eqD_t0 sh
      have c0 := s_0 (n := n) ds (by omega)
      have a0 := alls_comp (fun d => posB d n) ds
      have c1 : (Ev.orM (Ev.notM (asB (op1 (isiD "tuple") (readO 0)))) (Ev.orM (asB (op2 (cmpD .eq) (readO 0) (toO (tupM (pure []))))) (Ev.notM (asB (op1L allF (toO (c_set_is_right_0))))))) [.vl (.tuple ds), .vl (nD n), .un, .un, .un] = some (.ok (!(!decide (ds = []) && ds.all fun d => posB d n)) [.vl (.tuple ds), .vl (nD n), .un, .un, .un]) := by
        generalize (ds.map fun d => PyData.bool (posB d n)) = z at *
        generalize (ds.all fun d => posB d n) = b at *
        generalize decide (ds = []) = b0 at *
        cases b0 <;> simp [isi_tuple, ht, e0, c0, a0]
      by_cases hp : (ds.all fun d => posB d n) = true
      · obtain ⟨o, rfl, ho⟩ := pos_all hp
        have en : natsOf (mD o) = o := nats_mD o
        have ee : setB n (mD o) = (!decide (o = []) && asc o) := by
          unfold setB
          rw [en, nat_at ho, Bool.true_and]
        rw [ee]
        have ed : decide (o.map nD = []) = decide (o = []) := by simp
        rw [hp, Bool.and_true, ed] at c1
        cases q : decide (o = []) with
        | true =>
          rw [q] at c1
          exact ⟨_, ret_false c1⟩
        | false =>
          rw [q] at c1
          rw [ret_pass c1]
          have d1 := l_set_is_right_1 (m := o) (by simp at dl; omega) (.vl (nD n))
          have a1 : allF [.list ((o.zip o.tail).map fun p => PyData.bool (decide (p.1 < p.2)))] = some ⟨.bool (asc o), false⟩ := alls_comp (fun p : Nat × Nat => decide (p.1 < p.2)) (o.zip o.tail)
          generalize ((o.zip o.tail).map fun p => PyData.bool (decide (p.1 < p.2))) = z at *
          generalize asc o = b at *
          exact ⟨[.vl (mD o), .vl (nD n), .un, .un, .un], run_thenR (run_ret (by simp [d1, a1]))⟩
      · have hp' : (ds.all fun d => posB d n) = false := by simpa using hp
        have ee : setB n (.tuple ds) = false := by simp [setB, atB, hp']
        rw [hp', Bool.and_false] at c1
        rw [ee]
        exact ⟨_, ret_false c1⟩
    · have ee : setB n x = false := by
        have : ∀ k, atB x k n = false := fun k => by cases x <;> first | rfl | exact absurd rfl ht
        simp [setB, this]
      rw [ee]
      exact ⟨[.vl x, .vl (nD n), .un, .un, .un], ret_false (by simp [isi_tuple, ht])⟩
  obtain ⟨e1, he⟩ := go
  exact ret_of he)
end
end Lw

set_option Elab.async false
set_option linter.all false
set_option maxRecDepth 100000
set_option maxHeartbeats 4000000
namespace Lw
open PySem PySem.Spec L2 Ev
section
variable {n : Nat} {F : Nat → Nat → Int} {m : List Nat} {s : Nat} {ms : List (List Nat)}
def toN : PyData → Nat
  | .int i => i.toNat
  | _ => 0
def barB (n : Nat) (F : Nat → Nat → Int) (ms : List (List Nat)) : List PyData → Bool
  | [i, x] => posB i ms.length && envB F n (ms.getD (toN i) []) x
  | _ => false
def shoB (n : Nat) (F : Nat → Nat → Int) (ms : List (List Nat)) : List PyData → Bool
  | [x] => setB n x && shortB F ms (natsOf x)
  | _ => false
def refB (n : Nat) (F : Nat → Nat → Int) (ms : List (List Nat)) : PyData → Bool
  | .tuple (.str w :: rest) => if w = "barred" then barB n F ms rest else if w = "short" then shoB n F ms rest else false
  | _ => false
/-- values that can be looked at -/
structure Ok2 (v : PyData) : Prop where
  sh : SeqAt.shaped v = true
  el : ∀ ds, v = .tuple ds → ∀ x ∈ ds, ∀ es, x = .tuple es → SeqAt.shaped x = true ∧ es.length ≤ 50
theorem ref_two {a : PyData} {ds : List PyData} (h : ds.length < 2) : refB n F ms (.tuple ds) = false := by
  match ds, h with
  | [], _ => rfl
  | [x], _ =>
    cases x <;> try rfl
    rename_i w
    simp [refB, barB, shoB]
theorem nats_lt {x : PyData} (h : setB n x = true) : (∀ s ∈ natsOf x, s < n) ∧ asc (natsOf x) = true ∧ natsOf x ≠ [] ∧ x = mD (natsOf x) := by
  unfold setB at h
  rw [Bool.and_eq_true, Bool.and_eq_true] at h
  obtain ⟨t, rfl, _, ht⟩ := at_nat h.1.1
  have en : natsOf (mD t) = t := nats_mD t
  rw [en] at h ⊢
  exact ⟨ht, h.2, by simpa using h.1.2, rfl⟩
theorem asc_len {t : List Nat} (h : asc t = true) (hl : ∀ s ∈ t, s < n) : t.length ≤ n := by
  have pw : ∀ {t : List Nat}, asc t = true → t.Pairwise (· < ·) := by
    intro t
    induction t with
    | nil => intro _; exact .nil
    | cons a t ih =>
      intro h
      cases t with
      | nil => exact List.pairwise_singleton _ _
      | cons b t =>
        have h : (decide (a < b) && asc (b :: t)) = true := h
        rw [Bool.and_eq_true, decide_eq_true_eq] at h
        have p := ih h.2
        refine List.pairwise_cons.mpr ⟨fun c hc => ?_, p⟩
        rcases List.mem_cons.mp hc with rfl | hc
        · exact h.1
        · have := (List.pairwise_cons.mp p).1 c hc
          omega
  have nd : t.Nodup := (pw h).imp fun h => by omega
  have := sub_len (b := List.range n) nd fun x hx => List.mem_range.mpr (hl x hx)
  simpa using this
theorem gen_refusal (hf : Small n F) (h : Fine n ms) (v : PyData) (ov : Ok2 v) (e : En) : runM N_is_refusal.length ps_is_refusal.length m_is_refusal [facesD n F, msD ms, v] e = some (.ok ⟨.bool (refB n F ms v), false⟩ e) := runM_eq rfl rfl (by
  have kc := k_check_both hf h
  have l0 : lenF [facesD n F] = some ⟨nD n, false⟩ := by simp [lenF]
  have l1 : lenF [msD ms] = some ⟨nD ms.length, false⟩ := by simp [lenF]
  have n4 := h.n4
  show Ret m_is_refusal [.vl (facesD n F), .vl (msD ms), .vl v] _
  have s1 : ∀ rest : M Fl, thenM (dropM (callM N_check_both.length ps_check_both.length m_check_both (do let d ← valM (readV 0); let ds ← (do let d ← valM (readV 1); let ds ← (pure []); pure (d :: ds)); pure (d :: ds)))) rest [.vl (facesD n F), .vl (msD ms), .vl v] = rest [.vl (facesD n F), .vl (msD ms), .vl v] := fun rest => run_then (by
      generalize facesD n F = fd at *
      generalize msD ms = md at *
      simp [kc])
  have go : ∃ e1, m_is_refusal [.vl (facesD n F), .vl (msD ms), .vl v] = some (.ok (.rt ⟨.bool (refB n F ms v), false⟩) e1) := by
    rw [m_is_refusal, s1]
    clear s1
    by_cases ht : v.isTuple = true
    · obtain ⟨ds, rfl⟩ := tup_of ht
      have hl := len_tup ds
      by_cases h2 : ds.length < 2
      · have er := ref_two (a := .none) (n := n) (F := F) (ms := ms) h2
        rw [er]
        have h3 : ltD (nD ds.length) (.int 2) = some true := by
          show some (decide ((ds.length : Int) < 2)) = _
          rw [decide_eq_true (by omega)]
        refine ⟨[.vl (facesD n F), .vl (msD ms), .vl (.tuple ds)], ret_false ?_⟩
        generalize facesD n F = fd at *
        generalize msD ms = md at *
        generalize nD ds.length = z at *
        simp [isi_tuple, ht, hl, h3]
      · obtain ⟨a, b, rest, rfl⟩ : ∃ a b rest, ds = a :: b :: rest := by
          match ds, h2 with
          | [], h2 => exact absurd (by decide) h2
          | [x], h2 => exact absurd (by simp) h2
          | a :: b :: rest, _ => exact ⟨a, b, rest, rfl⟩
        have h3 : ltD (nD (a :: b :: rest).length) (.int 2) = some false := by
          show some (decide (((a :: b :: rest).length : Int) < 2)) = _
          rw [decide_eq_false (by omega)]
        have i0 : idxD (.tuple (a :: b :: rest)) (.int 0) = some ⟨a, false⟩ := by
          show (atI (a :: b :: rest) 0).map (fun d => (⟨d, false⟩ : RV)) = _
          rw [atI_zero]; rfl
        have i1 : idxD (.tuple (a :: b :: rest)) (.int 1) = some ⟨b, false⟩ := by
          show (atI (a :: b :: rest) ((1 : Nat) : Int)).map (fun d => (⟨d, false⟩ : RV)) = _
          rw [atI_nat _ _ (by simp)]; rfl
        by_cases hs : a.isStr = true
        · obtain ⟨w, rfl⟩ := str_of hs
          have c1 : (Ev.orM (Ev.notM (asB (op1 (isiD "tuple") (readO 2)))) (Ev.orM (asB (op2 (cmpD .lt) (toO (op1L lenF (readO 2))) (toO (pure ⟨.int 2, false⟩)))) (Ev.notM (asB (op1 (isiD "str") (toO (op2 idxD (readO 2) (toO (pure ⟨.int 0, false⟩))))))))) [.vl (facesD n F), .vl (msD ms), .vl (.tuple (.str w :: b :: rest))] = some (.ok false [.vl (facesD n F), .vl (msD ms), .vl (.tuple (.str w :: b :: rest))]) := by
            generalize facesD n F = fd at *
            generalize msD ms = md at *
            generalize nD (PyData.str w :: b :: rest).length = z at *
            generalize PyData.tuple (.str w :: b :: rest) = v at *
            simp [isi_tuple, isi_str, ht, hl, h3, i0, hs]
          rw [ret_pass c1]
          have ew := eqD_str w "barred"
          have es := eqD_str w "short"
          have el3 : eqD (nD (PyData.str w :: b :: rest).length) (.int 3) = some (decide (rest.length = 1)) := by
            rw [eq_int]
            congr 1
            exact decide_eq_decide.mpr (by simp; omega)
          have el2 : eqD (nD (PyData.str w :: b :: rest).length) (.int 2) = some (decide (rest = [])) := by
            rw [eq_int]
            congr 1
            exact decide_eq_decide.mpr (by
              cases rest with
              | nil => simp
              | cons c r => simp; omega)
          have kp := k_is_position b ms.length
          have c2 : (Ev.andM (asB (op2 (cmpD .eq) (toO (op2 idxD (readO 2) (toO (pure ⟨.int 0, false⟩)))) (toO (pure ⟨.str "barred", false⟩)))) (Ev.andM (asB (op2 (cmpD .eq) (toO (op1L lenF (readO 2))) (toO (pure ⟨.int 3, false⟩)))) (asB (callM N_is_position.length ps_is_position.length m_is_position (do let d ← valM (op2 idxD (readO 2) (toO (pure ⟨.int 1, false⟩))); let ds ← (do let d ← valM (op1L lenF (readO 1)); let ds ← (pure []); pure (d :: ds)); pure (d :: ds)))))) [.vl (facesD n F), .vl (msD ms), .vl (.tuple (.str w :: b :: rest))] = some (.ok (decide (w = "barred") && (decide (rest.length = 1) && posB b ms.length)) [.vl (facesD n F), .vl (msD ms), .vl (.tuple (.str w :: b :: rest))]) := by
            generalize decide (w = "barred") = b1 at *
            generalize decide (rest.length = 1) = b2 at *
            generalize posB b ms.length = b3 at *
            generalize nD ms.length = z1 at *
            generalize nD (PyData.str w :: b :: rest).length = z at *
            generalize facesD n F = fd at *
            generalize msD ms = md at *
            generalize PyData.tuple (.str w :: b :: rest) = v at *
            cases b1 <;> cases b2 <;> simp [i0, i1, hl, ew, el3, l1, kp]
          have sb : ∀ es, b = .tuple es → SeqAt.shaped b = true ∧ es.length ≤ 50 := fun es he => ov.el _ rfl b (by simp) es he
          have ks := gen_set (n := n) b sb
          have c3 : (Ev.andM (asB (op2 (cmpD .eq) (toO (op2 idxD (readO 2) (toO (pure ⟨.int 0, false⟩)))) (toO (pure ⟨.str "short", false⟩)))) (Ev.andM (asB (op2 (cmpD .eq) (toO (op1L lenF (readO 2))) (toO (pure ⟨.int 2, false⟩)))) (asB (callM N_set_is_right.length ps_set_is_right.length m_set_is_right (do let d ← valM (op2 idxD (readO 2) (toO (pure ⟨.int 1, false⟩))); let ds ← (do let d ← valM (op1L lenF (readO 0)); let ds ← (pure []); pure (d :: ds)); pure (d :: ds)))))) [.vl (facesD n F), .vl (msD ms), .vl (.tuple (.str w :: b :: rest))] = some (.ok (decide (w = "short") && (decide (rest = []) && setB n b)) [.vl (facesD n F), .vl (msD ms), .vl (.tuple (.str w :: b :: rest))]) := by
            generalize decide (w = "short") = b1 at *
            generalize decide (rest = []) = b2 at *
            generalize setB n b = b3 at *
            generalize nD n = z1 at *
            generalize nD (PyData.str w :: b :: rest).length = z at *
            generalize facesD n F = fd at *
            generalize msD ms = md at *
            generalize PyData.tuple (.str w :: b :: rest) = v at *
            cases b1 <;> cases b2 <;> simp [i0, i1, hl, es, el2, l0, ks]
          cases q2 : (decide (w = "barred") && (decide (rest.length = 1) && posB b ms.length)) with
          | true =>
            rw [q2] at c2
            rw [Bool.and_eq_true, Bool.and_eq_true, decide_eq_true_eq, decide_eq_true_eq] at q2
            obtain ⟨rfl, q3, q4⟩ := q2
            obtain ⟨x, rfl⟩ : ∃ x, rest = [x] := by
              match rest, q3 with
              | [x], _ => exact ⟨x, rfl⟩
            obtain ⟨i, rfl, hi⟩ := pos_nat q4
            have er : refB n F ms (.tuple [.str "barred", nD i, x]) = envB F n (ms.getD i []) x := by
              simp [refB, barB, hi, toN]
            rw [er]
            have hm : Msg n (ms.getD i []) := by rw [getD_of hi]; exact h.ok _ (List.getElem_mem hi)
            have ke := gen_enviers (F := F) hm x
            have im := idx_msD hi
            have i2 : idxD (.tuple [.str "barred", nD i, x]) (.int 2) = some ⟨x, false⟩ := rfl
            generalize ms.getD i [] = m at *
            generalize envB F n m x = bb at *
            refine ⟨[.vl (facesD n F), .vl (msD ms), .vl (.tuple [.str "barred", nD i, x])], run_thenR ?_⟩
            rw [run_if c2, if_pos rfl]
            refine run_thenR (run_ret ?_)
            generalize PyData.tuple [.str "barred", nD i, x] = v at *
            generalize facesD n F = fd at *
            generalize mD m = mm at *
            generalize msD ms = md at *
            simp [i1, i2, im, ke]
          | false =>
            rw [q2] at c2
            have p2 : ∀ rest2 : M Fl, thenM (ifM (Ev.andM (asB (op2 (cmpD .eq) (toO (op2 idxD (readO 2) (toO (pure ⟨.int 0, false⟩)))) (toO (pure ⟨.str "barred", false⟩)))) (Ev.andM (asB (op2 (cmpD .eq) (toO (op1L lenF (readO 2))) (toO (pure ⟨.int 3, false⟩)))) (asB (callM N_is_position.length ps_is_position.length m_is_position (do let d ← valM (op2 idxD (readO 2) (toO (pure ⟨.int 1, false⟩))); let ds ← (do let d ← valM (op1L lenF (readO 1)); let ds ← (pure []); pure (d :: ds)); pure (d :: ds)))))) (thenM (retM (callM N_enviers_fit.length ps_enviers_fit.length m_enviers_fit (do let d ← valM (readV 0); let ds ← (do let d ← valM (op2 idxD (readO 1) (toO (op2 idxD (readO 2) (toO (pure ⟨.int 1, false⟩))))); let ds ← (do let d ← valM (op2 idxD (readO 2) (toO (pure ⟨.int 2, false⟩))); let ds ← (pure []); pure (d :: ds)); pure (d :: ds)); pure (d :: ds)))) (pure .nx)) (pure .nx)) rest2 [.vl (facesD n F), .vl (msD ms), .vl (.tuple (.str w :: b :: rest))] = rest2 [.vl (facesD n F), .vl (msD ms), .vl (.tuple (.str w :: b :: rest))] := fun rest2 => run_then (by rw [run_if c2, if_neg (by simp)]; rfl)
            rw [p2]
            cases q3 : (decide (w = "short") && (decide (rest = []) && setB n b)) with
            | true =>
              rw [q3] at c3
              rw [Bool.and_eq_true, Bool.and_eq_true, decide_eq_true_eq, decide_eq_true_eq] at q3
              obtain ⟨rfl, rfl, q4⟩ := q3
              obtain ⟨g1, g2, g3, g4⟩ := nats_lt q4
              have er : refB n F ms (.tuple [.str "short", b]) = shortB F ms (natsOf b) := by
                have : ¬ (Str.ofString "short" = Str.ofString "barred") := by decide
                simp [refB, shoB, q4, this]
              rw [er]
              have ksh := k_are_short (F := F) h.toGood g1 (by have := asc_len g2 g1; omega)
              have ko := k_own_of (F := F) h.toMsgs
              have i1 : idxD (.tuple [.str "short", b]) (.int 1) = some ⟨mD (natsOf b), false⟩ := by rw [← g4]; rfl
              generalize shortB F ms (natsOf b) = bb at *
              generalize mD (natsOf b) = y at *
              refine ⟨[.vl (facesD n F), .vl (msD ms), .vl (.tuple [.str "short", b])], run_thenR ?_⟩
              rw [run_if c3, if_pos rfl]
              refine run_thenR (run_ret ?_)
              generalize PyData.tuple [.str "short", b] = v at *
              generalize llD (ownL n F ms) = oo at *
              generalize facesD n F = fd at *
              generalize msD ms = md at *
              simp [i1, ko, ksh]
            | false =>
              rw [q3] at c3
              have er : refB n F ms (.tuple (.str w :: b :: rest)) = false := by
                simp only [refB]
                by_cases w1 : w = "barred"
                · rw [if_pos w1]
                  match rest with
                  | [] => rfl
                  | [x] =>
                    have : posB b ms.length = false := by simpa [w1] using q2
                    simp [barB, this]
                  | x :: y :: r => rfl
                · rw [if_neg w1]
                  by_cases w2 : w = "short"
                  · rw [if_pos w2]
                    match rest with
                    | [] =>
                      have : setB n b = false := by simpa [w2] using q3
                      simp [shoB, this]
                    | x :: r => rfl
                  · rw [if_neg w2]
              rw [er]
              refine ⟨[.vl (facesD n F), .vl (msD ms), .vl (.tuple (.str w :: b :: rest))], ?_⟩
              rw [run_then (by rw [run_if c3, if_neg (by simp)]; exact (rfl))]
              exact run_thenR (run_ret rfl)
        · have er : refB n F ms (.tuple (a :: b :: rest)) = false := by
            cases a <;> first | rfl | exact absurd rfl hs
          rw [er]
          refine ⟨[.vl (facesD n F), .vl (msD ms), .vl (.tuple (a :: b :: rest))], ret_false ?_⟩
          generalize facesD n F = fd at *
          generalize msD ms = md at *
          generalize nD (a :: b :: rest).length = z at *
          generalize PyData.tuple (a :: b :: rest) = v at *
          simp [isi_tuple, isi_str, ht, hl, h3, i0, hs]
    · have er : refB n F ms v = false := by
        cases v <;> first | rfl | exact absurd rfl ht
      rw [er]
      refine ⟨[.vl (facesD n F), .vl (msD ms), .vl v], ret_false ?_⟩
      generalize facesD n F = fd at *
      generalize msD ms = md at *
      simp [isi_tuple, ht]
  obtain ⟨e1, he⟩ := go
  exact ret_of he)
end
end Lw

set_option Elab.async false
set_option linter.all false
set_option maxRecDepth 100000
set_option maxHeartbeats 4000000
namespace Lw
open PySem PySem.Spec L2 Ev
theorem asc_pw : ∀ {t : List Nat}, asc t = true ↔ t.Pairwise (· < ·)
  | [] => by simp [asc]
  | [a] => by simp [asc]
  | a :: b :: t => by
    have e : asc (a :: b :: t) = (decide (a < b) && asc (b :: t)) := rfl
    rw [e, Bool.and_eq_true, decide_eq_true_eq, asc_pw]
    constructor
    · rintro ⟨h1, h2⟩
      refine List.pairwise_cons.mpr ⟨fun c hc => ?_, h2⟩
      rcases List.mem_cons.mp hc with rfl | hc
      · exact h1
      · have := (List.pairwise_cons.mp h2).1 c hc
        omega
    · intro h
      obtain ⟨h1, h2⟩ := List.pairwise_cons.mp h
      exact ⟨h1 b (by simp), h2⟩
theorem sorted_iff (t : List Nat) : (t.map Int.ofNat = sortN (distL (t.map Int.ofNat))) ↔ asc t = true := by
  have tot : ∀ a b : Int, (decide (a ≤ b) || decide (b ≤ a)) = true := fun a b => by
    simp only [Bool.or_eq_true, decide_eq_true_eq]; omega
  have tr : ∀ a b c : Int, decide (a ≤ b) = true → decide (b ≤ c) = true → decide (a ≤ c) = true := fun a b c h1 h2 => by
    simp only [decide_eq_true_eq] at *; omega
  have s1 : (sortN (distL (t.map Int.ofNat))).Pairwise fun a b => decide (a ≤ b) = true := List.pairwise_mergeSort tr tot _
  have p1 : (sortN (distL (t.map Int.ofNat))).Perm (distL (t.map Int.ofNat)) := List.mergeSort_perm _ _
  have nd : (sortN (distL (t.map Int.ofNat))).Nodup := p1.nodup_iff.mpr (dist_nodup _)
  have st : (sortN (distL (t.map Int.ofNat))).Pairwise (· < ·) := by
    have := s1.and nd
    refine this.imp fun h => ?_
    have h1 := of_decide_eq_true h.1
    have h2 := h.2
    omega
  rw [asc_pw]
  constructor
  · intro e
    rw [← e] at st
    have := List.pairwise_map.mp st
    exact this.imp fun h => by simpa using h
  · intro h
    refine lt_ext (List.pairwise_map.mpr (h.imp fun h => by simpa using h)) st fun k => ?_
    rw [p1.mem_iff, mem_dist]
section
variable {n : Nat} {F : Nat → Nat → Int} {m : List Nat} {s : Nat} {ms : List (List Nat)}
def lEnv (F : Nat → Nat → Int) (m o : List Nat) : Bool := (m.zip o).all fun p => decide (p.2 ∈ m) && decide (F p.2 p.2 < F p.2 p.1)
def lbarB (n : Nat) (F : Nat → Nat → Int) (ms : List (List Nat)) : List PyData → Bool
  | [i, x] => posB i ms.length && (atB x (ms.getD (toN i) []).length n && lEnv F (ms.getD (toN i) []) (natsOf x))
  | _ => false
def lshoB (n : Nat) (F : Nat → Nat → Int) (ms : List (List Nat)) : List PyData → Bool
  | [x] => atB x (natsOf x).length n && (asc (natsOf x) && shortB F ms (natsOf x))
  | _ => false
def lrefB (n : Nat) (F : Nat → Nat → Int) (ms : List (List Nat)) : PyData → Bool
  | .tuple (.str w :: rest) => if w = "barred" then lbarB n F ms rest else if w = "short" then lshoB n F ms rest else false
  | _ => false
theorem env_eq : ∀ {m o k : List Nat}, m.length = o.length → (((o.all fun a => decide (a ∈ k)) && (o.zip m).all fun p => decide (F p.1 p.1 < F p.1 p.2)) = (m.zip o).all fun p => decide (p.2 ∈ k) && decide (F p.2 p.2 < F p.2 p.1))
  | [], [], _, _ => rfl
  | x :: m, y :: o, k, h => by
    have ih := env_eq (m := m) (o := o) (k := k) (by simpa using h)
    rw [List.zip_cons_cons, List.zip_cons_cons, List.all_cons, List.all_cons, List.all_cons, ← ih]
    generalize decide (y ∈ k) = b1
    generalize decide (F y y < F y x) = b2
    generalize (o.all fun a => decide (a ∈ k)) = b3
    generalize ((o.zip m).all fun p => decide (F p.1 p.1 < F p.1 p.2)) = b4
    cases b1 <;> cases b2 <;> cases b3 <;> cases b4 <;> rfl
theorem ref_eq (v : PyData) : refB n F ms v = lrefB n F ms v := by
  have main : ∀ (w : Str) (rest : List PyData), (if w = "barred" then barB n F ms rest else if w = "short" then shoB n F ms rest else false) = (if w = "barred" then lbarB n F ms rest else if w = "short" then lshoB n F ms rest else false) := fun w rest => by
    by_cases h1 : w = "barred"
    · rw [if_pos h1, if_pos h1]
      match rest with
      | [] => rfl
      | [i] => rfl
      | i :: x :: y :: r => rfl
      | [i, x] =>
        show (posB i ms.length && envB F n (ms.getD (toN i) []) x) = (posB i ms.length && (atB x (ms.getD (toN i) []).length n && lEnv F (ms.getD (toN i) []) (natsOf x)))
        unfold envB lEnv
        generalize ms.getD (toN i) [] = m
        cases q : atB x m.length n with
        | false => rfl
        | true =>
          obtain ⟨o, rfl, ho, _⟩ := at_nat q
          have en : natsOf (mD o) = o := nats_mD o
          rw [en, Bool.true_and, Bool.true_and, env_eq (F := F) (k := m) ho.symm]
    · rw [if_neg h1, if_neg h1]
      by_cases h2 : w = "short"
      · rw [if_pos h2, if_pos h2]
        match rest with
        | [] => rfl
        | i :: x :: r => rfl
        | [x] =>
          show (setB n x && shortB F ms (natsOf x)) = (atB x (natsOf x).length n && (asc (natsOf x) && shortB F ms (natsOf x)))
          unfold setB
          by_cases c : natsOf x = []
          · rw [c]
            have : shortB F ms [] = false := by simp [shortB]
            simp [this]
          · simp [c, Bool.and_assoc]
      · rw [if_neg h2, if_neg h2]
  cases v with
  | tuple ds =>
    cases ds with
    | nil => rfl
    | cons a rest =>
      cases a with
      | str w => exact main w rest
      | _ => rfl
  | _ => rfl
theorem r_0 {o : List Nat} (hm : Msg n m) (ho : ∀ a ∈ o, a < n) {v : PyData} (i2 : idxD v (.int 2) = some ⟨mD o, false⟩) (y a b : Sl) : c__law_is_refusal_0 [.vl (facesD n F), y, .vl v, .vl (mD m), a, b, .un, .un] = some (.ok ⟨.list ((m.zip o).map fun p => .bool (decide (p.2 ∈ m) && decide (F p.2 p.2 < F p.2 p.1))), true⟩ [.vl (facesD n F), y, .vl v, .vl (mD m), a, b, .un, .un]) := by
  rw [c__law_is_refusal_0, lc_t (fun p : Nat × Nat => PyData.tuple [nD p.1, nD p.2]) PyData.bool (fun p => some (decide (p.2 ∈ m) && decide (F p.2 p.2 < F p.2 p.1))) (xs := m.zip o)]
  · simp
  · have z1 : List.zipWith (fun d e => PyData.tuple [d, e]) (m.map nD) (o.map nD) = (m.zip o).map fun p => PyData.tuple [nD p.1, nD p.2] := by
      simp [List.zip_eq_zipWith, List.map_zipWith, List.zipWith_map]
    have q1 : itemsOf (mD m) = some (m.map nD) := rfl
    have q2 : itemsOf (mD o) = some (o.map nD) := rfl
    generalize mD m = mm at *
    generalize mD o = oo at *
    generalize facesD n F = fd at *
    simp [zipM, i2, q1, q2, z1]
  · intro p hp
    obtain ⟨x, z⟩ := p
    have h1 := List.of_mem_zip hp
    have j1 : idxD (facesD n F) (nD z) = some ⟨rowD n (F z), false⟩ := idx_faces (j := 0) (ho _ h1.2) []
    have j2 := idx_row (f := F z) (ho _ h1.2)
    have j3 := idx_row (f := F z) (hm.lt _ h1.1)
    refine ⟨[.vl (facesD n F), y, .vl v, .vl (mD m), a, b, .vl (nD x), .vl (nD z)], ?_, by simp⟩
    by_cases c : z ∈ m
    · simp [turnM, c, -idx_tup, j1, j2, j3, gtD]
    · simp [turnM, c]
  · exact zip_len hm.len
  · simp
theorem loop_own2 (h : Good n ms) (x0 x1 x2 x3 x7 : Sl) : ∀ (t seen : List Nat) (b : Sl), (∀ s ∈ t, s < n) → seen.length + t.length * 15 ≤ 900 →
    ∃ b', forGo b__law_is_refusal_0 (t.map nD) [x0, x1, x2, x3, .vl (llD (ownL n F ms)), .ow false (seen.map nD), b, x7] = some (.ok .nx [x0, x1, x2, x3, .vl (llD (ownL n F ms)), .ow false ((seen ++ t.flatMap (ownS F ms)).map nD), b', x7])
  | [], seen, b, _, _ => ⟨b, by simp [forGo]⟩
  | s :: t, seen, b, hs, hz => by
    have l := Nat.le_trans (ownS_len (F := F) (s := s) (ms := ms)) h.l15
    simp only [List.length_cons] at hz
    have g : seen.length + (ownS F ms s).length ≤ most := by unfold most; omega
    have st : b__law_is_refusal_0 (nD s) [x0, x1, x2, x3, .vl (llD (ownL n F ms)), .ow false (seen.map nD), b, x7] = some (.ok .nx [x0, x1, x2, x3, .vl (llD (ownL n F ms)), .ow false ((seen ++ ownS F ms s).map nD), .vl (nD s), x7]) := by
      simp [b__law_is_refusal_0, bodyM, extM, itL, atI_own (hs s List.mem_cons_self), g]
    obtain ⟨b', h'⟩ := loop_own2 h x0 x1 x2 x3 x7 t (seen ++ ownS F ms s) (.vl (nD s)) (fun x hx => hs x (List.mem_cons_of_mem _ hx)) (by rw [List.length_append]; omega)
    refine ⟨b', ?_⟩
    rw [List.map_cons]
    unfold forGo
    rw [run_bind, st, bndR_ok]
    rw [List.flatMap_cons, ← List.append_assoc]
    exact h'
theorem flat_own (h : Good n ms) : ∀ t : List Nat, (t.flatMap (ownS F ms)).length ≤ t.length * 15
  | [] => by simp
  | x :: t => by
    have := Nat.le_trans (ownS_len (F := F) (s := x) (ms := ms)) h.l15
    have := flat_own h t
    rw [List.flatMap_cons, List.length_append, List.length_cons]
    omega
end
end Lw

set_option Elab.async false
set_option linter.all false
set_option maxRecDepth 100000
set_option maxHeartbeats 4000000
namespace Lw
open PySem PySem.Spec L2 Ev
section
variable {n : Nat} {F : Nat → Nat → Int} {m : List Nat} {s : Nat} {ms : List (List Nat)}
theorem slc_12 (a b c : PyData) : slcD (some 1) (some 2) (.tuple [a, b, c]) = some ⟨.tuple [b], false⟩ := rfl
theorem at_1 (b : PyData) (k : Nat) : atB (.tuple [b]) 1 k = posB b k := by simp [atB]
theorem eqD_sort (t : List Nat) : eqD (lnD t) (.list ((sortN (distL (t.map Int.ofNat))).map PyData.int)) = some (asc t) := by
  have sh : ∀ ns : List Int, SeqAt.shaped (.list (ns.map PyData.int)) = true := fun ns => by
    unfold SeqAt.shaped
    rw [Bool.and_eq_true]
    refine ⟨canLay_map PyData.int (fun _ => rfl) ns, decide_eq_true ?_⟩
    have := depth_map PyData.int 0 (fun _ => Nat.le_refl _) ns
    simp only [PyData.depth]
    omega
  have ev : ∀ a b : List Int, PyData.eqvAll (a.map PyData.int) (b.map PyData.int) = decide (a = b) := by
    intro a
    induction a with
    | nil => intro b; cases b <;> rfl
    | cons x a ih =>
      intro b
      cases b with
      | nil => rfl
      | cons y b =>
        simp only [List.map_cons, PyData.eqvAll, ih b, PyData.eqv]
        by_cases h : x = y <;> by_cases h2 : a = b <;> simp [h, h2]
  have e : lnD t = .list ((t.map Int.ofNat).map PyData.int) := by simp [lnD]
  rw [e, eqD, if_pos ⟨sh _, sh _⟩]
  show some (PyData.eqvAll _ _) = _
  rw [ev]
  congr 1
  rw [Bool.eq_iff_iff, decide_eq_true_eq]
  exact sorted_iff t
theorem law_refusal_run (h : Fine n ms) (v : PyData) (ov : Ok2 v) (e : En) : runM N__law_is_refusal.length ps__law_is_refusal.length m__law_is_refusal [facesD n F, msD ms, v] e = some (.ok ⟨.bool (lrefB n F ms v), false⟩ e) := runM_eq rfl rfl (by
  have l0 : lenF [facesD n F] = some ⟨nD n, false⟩ := by simp [lenF]
  have l1 : lenF [msD ms] = some ⟨nD ms.length, false⟩ := by simp [lenF]
  have n4 := h.n4
  show Ret m__law_is_refusal [.vl (facesD n F), .vl (msD ms), .vl v, .un, .un, .un, .un, .un] _
  have go : ∃ e1, m__law_is_refusal [.vl (facesD n F), .vl (msD ms), .vl v, .un, .un, .un, .un, .un] = some (.ok (.rt ⟨.bool (lrefB n F ms v), false⟩) e1) := by
    rw [m__law_is_refusal]
    by_cases ht : v.isTuple = true
    · obtain ⟨ds, rfl⟩ := tup_of ht
      have hl := len_tup ds
      have e0 := eqD_t0 ov.sh
      cases ds with
      | nil =>
        refine ⟨[.vl (facesD n F), .vl (msD ms), .vl (.tuple []), .un, .un, .un, .un, .un], ret_false ?_⟩
        have e0 : eqD (.tuple []) (.tuple []) = some true := e0
        generalize facesD n F = fd at *
        generalize msD ms = md at *
        simp [isi_tuple, ht, e0]
      | cons a rest =>
        have i0 : idxD (.tuple (a :: rest)) (.int 0) = some ⟨a, false⟩ := by
          show (atI (a :: rest) 0).map (fun d => (⟨d, false⟩ : RV)) = _
          rw [atI_zero]; rfl
        have e0 : eqD (.tuple (a :: rest)) (.tuple []) = some false := by rw [e0]; simp
        by_cases hs : a.isStr = true
        · obtain ⟨w, rfl⟩ := str_of hs
          have c1 : (Ev.orM (Ev.notM (asB (op1 (isiD "tuple") (readO 2)))) (Ev.orM (asB (op2 (cmpD .eq) (readO 2) (toO (tupM (pure []))))) (Ev.notM (asB (op1 (isiD "str") (toO (op2 idxD (readO 2) (toO (pure ⟨.int 0, false⟩))))))))) [.vl (facesD n F), .vl (msD ms), .vl (.tuple (.str w :: rest)), .un, .un, .un, .un, .un] = some (.ok false [.vl (facesD n F), .vl (msD ms), .vl (.tuple (.str w :: rest)), .un, .un, .un, .un, .un]) := by
            generalize facesD n F = fd at *
            generalize msD ms = md at *
            generalize PyData.tuple (.str w :: rest) = v at *
            simp [isi_tuple, isi_str, ht, e0, i0, hs]
          rw [ret_pass c1]
          have ew := eqD_str w "barred"
          have es := eqD_str w "short"
          have el3 : eqD (nD (PyData.str w :: rest).length) (.int 3) = some (decide (rest.length = 2)) := by
            rw [eq_int]
            congr 1
            exact decide_eq_decide.mpr (by simp; omega)
          have el2 : eqD (nD (PyData.str w :: rest).length) (.int 2) = some (decide (rest.length = 1)) := by
            rw [eq_int]
            congr 1
            exact decide_eq_decide.mpr (by simp; omega)
          have c2 : (asB (op2 (cmpD .eq) (toO (op2 idxD (readO 2) (toO (pure ⟨.int 0, false⟩)))) (toO (pure ⟨.str "barred", false⟩)))) [.vl (facesD n F), .vl (msD ms), .vl (.tuple (.str w :: rest)), .un, .un, .un, .un, .un] = some (.ok (decide (w = "barred")) [.vl (facesD n F), .vl (msD ms), .vl (.tuple (.str w :: rest)), .un, .un, .un, .un, .un]) := by
            generalize decide (w = "barred") = b1 at *
            generalize facesD n F = fd at *
            generalize msD ms = md at *
            generalize PyData.tuple (.str w :: rest) = v at *
            simp [i0, ew]
          by_cases w1 : w = "barred"
          · rw [decide_eq_true w1] at c2
            have er : lrefB n F ms (.tuple (.str w :: rest)) = lbarB n F ms rest := by simp [lrefB, w1]
            rw [er]
            suffices hh : ∃ e1, (thenM (ifM (Ev.orM (asB (op2 (cmpD .ne) (toO (op1L lenF (readO 2))) (toO (pure ⟨.int 3, false⟩)))) (Ev.notM (asB (callM N__law_are_at.length ps__law_are_at.length m__law_are_at (do let d ← valM (slcM (readO 2) (partM (some (toO (pure ⟨.int 1, false⟩)))) (partM (some (toO (pure ⟨.int 2, false⟩))))); let ds ← (do let d ← valM (pure ⟨.int 1, false⟩); let ds ← (do let d ← valM (op1L lenF (readO 1)); let ds ← (pure []); pure (d :: ds)); pure (d :: ds)); pure (d :: ds)))))) (thenM (retM (pure ⟨.bool false, false⟩)) (pure .nx)) (pure .nx)) (thenM (setM 3 (op2 idxD (readO 1) (toO (op2 idxD (readO 2) (toO (pure ⟨.int 1, false⟩)))))) (thenM (ifM (Ev.notM (asB (callM N__law_are_at.length ps__law_are_at.length m__law_are_at (do let d ← valM (op2 idxD (readO 2) (toO (pure ⟨.int 2, false⟩))); let ds ← (do let d ← valM (op1L lenF (readO 3)); let ds ← (do let d ← valM (op1L lenF (readO 0)); let ds ← (pure []); pure (d :: ds)); pure (d :: ds)); pure (d :: ds))))) (thenM (retM (pure ⟨.bool false, false⟩)) (pure .nx)) (pure .nx)) (thenM (retM (op1L allF (toO (c__law_is_refusal_0)))) (pure .nx))))) [.vl (facesD n F), .vl (msD ms), .vl (.tuple (.str w :: rest)), .un, .un, .un, .un, .un] = some (.ok (.rt ⟨.bool (lbarB n F ms rest), false⟩) e1) by
              obtain ⟨e1, hh⟩ := hh
              exact ⟨e1, run_thenR (by rw [run_if c2, if_pos rfl]; exact hh)⟩
            by_cases h3 : rest.length = 2
            · obtain ⟨i, x, rfl⟩ : ∃ i x, rest = [i, x] := by
                match rest, h3 with
                | [i, x], _ => exact ⟨i, x, rfl⟩
              have i1 : idxD (.tuple [.str w, i, x]) (.int 1) = some ⟨i, false⟩ := rfl
              have i2 : idxD (.tuple [.str w, i, x]) (.int 2) = some ⟨x, false⟩ := rfl
              have sl := slc_12 (.str w) i x
              have ka := k_at (.tuple [i]) (many := 1) (k := ms.length) (by decide)
              rw [at_1] at ka
              have ka : ∀ e, runM N__law_are_at.length ps__law_are_at.length m__law_are_at [.tuple [i], .int 1, nD ms.length] e = some (.ok ⟨.bool (posB i ms.length), false⟩ e) := ka
              have c3 : (Ev.orM (asB (op2 (cmpD .ne) (toO (op1L lenF (readO 2))) (toO (pure ⟨.int 3, false⟩)))) (Ev.notM (asB (callM N__law_are_at.length ps__law_are_at.length m__law_are_at (do let d ← valM (slcM (readO 2) (partM (some (toO (pure ⟨.int 1, false⟩)))) (partM (some (toO (pure ⟨.int 2, false⟩))))); let ds ← (do let d ← valM (pure ⟨.int 1, false⟩); let ds ← (do let d ← valM (op1L lenF (readO 1)); let ds ← (pure []); pure (d :: ds)); pure (d :: ds)); pure (d :: ds)))))) [.vl (facesD n F), .vl (msD ms), .vl (.tuple [.str w, i, x]), .un, .un, .un, .un, .un] = some (.ok (!posB i ms.length) [.vl (facesD n F), .vl (msD ms), .vl (.tuple [.str w, i, x]), .un, .un, .un, .un, .un]) := by
                have el3 : eqD (nD (PyData.str w :: [i, x]).length) (.int 3) = some true := by rw [el3]; rfl
                generalize posB i ms.length = b3 at *
                generalize nD ms.length = z1 at *
                generalize nD (PyData.str w :: [i, x]).length = z at *
                generalize facesD n F = fd at *
                generalize msD ms = md at *
                generalize PyData.tuple [.str w, i, x] = v at *
                generalize PyData.tuple [i] = vi at *
                simp [hl, el3, slcM, partM, sl, l1, ka]
              by_cases hp : posB i ms.length = true
              · rw [hp] at c3
                rw [ret_pass c3]
                obtain ⟨j, rfl, hj⟩ := pos_nat hp
                have er2 : lbarB n F ms [nD j, x] = (atB x (ms.getD j []).length n && lEnv F (ms.getD j []) (natsOf x)) := by simp [lbarB, hj, toN]
                rw [er2]
                have hm : Msg n (ms.getD j []) := by rw [getD_of hj]; exact h.ok _ (List.getElem_mem hj)
                have im := idx_msD hj
                generalize ms.getD j [] = m at *
                have lm : lenF [mD m] = some ⟨nD m.length, false⟩ := by simp [lenF]
                have kb := k_at x (many := m.length) (k := n) hm.len
                have s3 : setM 3 (op2 idxD (readO 1) (toO (op2 idxD (readO 2) (toO (pure ⟨.int 1, false⟩))))) [.vl (facesD n F), .vl (msD ms), .vl (.tuple [.str w, nD j, x]), .un, .un, .un, .un, .un] = some (.ok .nx [.vl (facesD n F), .vl (msD ms), .vl (.tuple [.str w, nD j, x]), .vl (mD m), .un, .un, .un, .un]) := by
                  generalize mD m = mm at *
                  generalize facesD n F = fd at *
                  generalize msD ms = md at *
                  generalize PyData.tuple [.str w, nD j, x] = v at *
                  simp [i1, im]
                rw [run_then s3]
                have c4 : (Ev.notM (asB (callM N__law_are_at.length ps__law_are_at.length m__law_are_at (do let d ← valM (op2 idxD (readO 2) (toO (pure ⟨.int 2, false⟩))); let ds ← (do let d ← valM (op1L lenF (readO 3)); let ds ← (do let d ← valM (op1L lenF (readO 0)); let ds ← (pure []); pure (d :: ds)); pure (d :: ds)); pure (d :: ds))))) [.vl (facesD n F), .vl (msD ms), .vl (.tuple [.str w, nD j, x]), .vl (mD m), .un, .un, .un, .un] = some (.ok (!atB x m.length n) [.vl (facesD n F), .vl (msD ms), .vl (.tuple [.str w, nD j, x]), .vl (mD m), .un, .un, .un, .un]) := by
                  generalize atB x m.length n = b at *
                  generalize nD n = z1 at *
                  generalize nD m.length = z2 at *
                  generalize mD m = mm at *
                  generalize facesD n F = fd at *
                  generalize msD ms = md at *
                  generalize PyData.tuple [.str w, nD j, x] = v at *
                  simp [i2, lm, l0, kb]
                cases q : atB x m.length n with
                | false =>
                  rw [q] at c4
                  exact ⟨_, ret_false c4⟩
                | true =>
                  rw [q] at c4
                  rw [ret_pass c4, Bool.true_and]
                  obtain ⟨o, rfl, ho, hon⟩ := at_nat q
                  have en : natsOf (mD o) = o := nats_mD o
                  rw [en]
                  have d0 := r_0 (F := F) hm hon i2 (.vl (msD ms)) .un .un
                  have a0 : allF [.list ((m.zip o).map fun p => PyData.bool (decide (p.2 ∈ m) && decide (F p.2 p.2 < F p.2 p.1)))] = some ⟨.bool (lEnv F m o), false⟩ := alls_comp (fun p : Nat × Nat => decide (p.2 ∈ m) && decide (F p.2 p.2 < F p.2 p.1)) (m.zip o)
                  generalize ((m.zip o).map fun p => PyData.bool (decide (p.2 ∈ m) && decide (F p.2 p.2 < F p.2 p.1))) = z at *
                  generalize lEnv F m o = b at *
                  generalize PyData.tuple [.str w, nD j, mD o] = v at *
                  generalize mD m = mm at *
                  generalize facesD n F = fd at *
                  generalize msD ms = md at *
                  exact ⟨[.vl fd, .vl md, .vl v, .vl mm, .un, .un, .un, .un], run_thenR (run_ret (by simp [d0, a0]))⟩
              · have hp' : posB i ms.length = false := by simpa using hp
                have er2 : lbarB n F ms [i, x] = false := by simp [lbarB, hp']
                rw [er2]
                rw [hp'] at c3
                exact ⟨_, ret_false c3⟩
            · have er2 : lbarB n F ms rest = false := by
                match rest, h3 with
                | [], _ => rfl
                | [i], _ => rfl
                | [i, x], h3 => exact absurd rfl h3
                | i :: x :: y :: r, _ => rfl
              rw [er2]
              have el3 : eqD (nD (PyData.str w :: rest).length) (.int 3) = some false := by rw [el3, decide_eq_false h3]
              refine ⟨[.vl (facesD n F), .vl (msD ms), .vl (.tuple (.str w :: rest)), .un, .un, .un, .un, .un], ret_false ?_⟩
              generalize nD (PyData.str w :: rest).length = z at *
              generalize facesD n F = fd at *
              generalize msD ms = md at *
              generalize PyData.tuple (.str w :: rest) = v at *
              simp [hl, el3]
          · rw [decide_eq_false w1] at c2
            rw [run_then (by rw [run_if c2, if_neg (by simp)]; exact (rfl))]
            have er : lrefB n F ms (.tuple (.str w :: rest)) = (decide (w = "short") && lshoB n F ms rest) := by
              simp only [lrefB]
              rw [if_neg w1]
              by_cases w2 : w = "short"
              · rw [if_pos w2, decide_eq_true w2, Bool.true_and]
              · rw [if_neg w2, decide_eq_false w2, Bool.false_and]
            rw [er]
            by_cases h3 : rest.length = 1
            · obtain ⟨x, rfl⟩ : ∃ x, rest = [x] := by
                match rest, h3 with
                | [x], _ => exact ⟨x, rfl⟩
              have i1 : idxD (.tuple [.str w, x]) (.int 1) = some ⟨x, false⟩ := rfl
              have el2 : eqD (nD (PyData.str w :: [x]).length) (.int 2) = some true := by rw [el2]; rfl
              have c5 : (Ev.orM (asB (op2 (cmpD .ne) (toO (op2 idxD (readO 2) (toO (pure ⟨.int 0, false⟩)))) (toO (pure ⟨.str "short", false⟩)))) (Ev.orM (asB (op2 (cmpD .ne) (toO (op1L lenF (readO 2))) (toO (pure ⟨.int 2, false⟩)))) (Ev.orM (Ev.notM (asB (op1 (isiD "tuple") (toO (op2 idxD (readO 2) (toO (pure ⟨.int 1, false⟩))))))) (Ev.notM (asB (callM N__law_are_at.length ps__law_are_at.length m__law_are_at (do let d ← valM (op2 idxD (readO 2) (toO (pure ⟨.int 1, false⟩))); let ds ← (do let d ← valM (op1L lenF (toO (op2 idxD (readO 2) (toO (pure ⟨.int 1, false⟩))))); let ds ← (do let d ← valM (op1L lenF (readO 0)); let ds ← (pure []); pure (d :: ds)); pure (d :: ds)); pure (d :: ds)))))))) [.vl (facesD n F), .vl (msD ms), .vl (.tuple [.str w, x]), .un, .un, .un, .un, .un] = some (.ok (!(decide (w = "short") && atB x (natsOf x).length n)) [.vl (facesD n F), .vl (msD ms), .vl (.tuple [.str w, x]), .un, .un, .un, .un, .un]) := by
                by_cases hx : x.isTuple = true
                · obtain ⟨es', rfl⟩ := tup_of hx
                  obtain ⟨_, ln⟩ := ov.el _ rfl (.tuple es') (by simp) es' rfl
                  have lx := len_tup es'
                  have ka := k_at (.tuple es') (many := es'.length) (k := n) (by omega)
                  have en : (natsOf (.tuple es')).length = es'.length := by simp [natsOf, wayB.natsOf]
                  rw [en]
                  generalize decide (w = "short") = b1 at *
                  generalize atB (.tuple es') es'.length n = b2 at *
                  generalize nD n = z1 at *
                  generalize nD es'.length = z2 at *
                  generalize nD (PyData.str w :: [PyData.tuple es']).length = z at *
                  generalize facesD n F = fd at *
                  generalize msD ms = md at *
                  generalize PyData.tuple [.str w, .tuple es'] = v at *
                  generalize PyData.tuple es' = vx at *
                  cases b1 <;> simp [i0, i1, es, hl, el2, isi_tuple, hx, lx, l0, ka]
                · have ea : atB x (natsOf x).length n = false := by cases x <;> first | rfl | exact absurd rfl hx
                  rw [ea, Bool.and_false]
                  generalize decide (w = "short") = b1 at *
                  generalize nD (PyData.str w :: [x]).length = z at *
                  generalize facesD n F = fd at *
                  generalize msD ms = md at *
                  generalize PyData.tuple [.str w, x] = v at *
                  cases b1 <;> simp [i0, i1, es, hl, el2, isi_tuple, hx]
              have ee : (decide (w = "short") && lshoB n F ms [x]) = ((decide (w = "short") && atB x (natsOf x).length n) && (asc (natsOf x) && shortB F ms (natsOf x))) := by
                show (decide (w = "short") && (atB x (natsOf x).length n && (asc (natsOf x) && shortB F ms (natsOf x)))) = _
                rw [Bool.and_assoc]
              rw [ee]
              cases q : (decide (w = "short") && atB x (natsOf x).length n) with
              | false =>
                rw [q] at c5
                exact ⟨_, ret_false c5⟩
              | true =>
                rw [q] at c5
                rw [ret_pass c5, Bool.true_and]
                rw [Bool.and_eq_true] at q
                obtain ⟨t, rfl, tl, tn⟩ := at_nat q.2
                have en : natsOf (mD t) = t := nats_mD t
                rw [en]
                have t50 : t.length ≤ 50 := by
                  have := (ov.el _ rfl (mD t) (by simp) (t.map nD) rfl).2
                  simpa using this
                have lf : listF [mD t] = some ⟨lnD t, true⟩ := rfl
                have ss : sortSetD (mD t) = some ⟨.list ((sortN (distL (t.map Int.ofNat))).map .int), true⟩ := by
                  simp only [sortSetD, intsOf_nD, Option.bind_some]
                  rw [if_pos (by rw [List.length_map]; omega)]
                have eq1 := eqD_sort t
                have c6 : (asB (op2 (cmpD .ne) (toO (op1L listF (toO (op2 idxD (readO 2) (toO (pure ⟨.int 1, false⟩)))))) (toO (op1 sortSetD (toO (op2 idxD (readO 2) (toO (pure ⟨.int 1, false⟩)))))))) [.vl (facesD n F), .vl (msD ms), .vl (.tuple [.str w, mD t]), .un, .un, .un, .un, .un] = some (.ok (!asc t) [.vl (facesD n F), .vl (msD ms), .vl (.tuple [.str w, mD t]), .un, .un, .un, .un, .un]) := by
                  generalize asc t = b at *
                  generalize PyData.list ((sortN (distL (t.map Int.ofNat))).map .int) = z1 at *
                  generalize lnD t = z2 at *
                  generalize PyData.tuple [.str w, mD t] = v at *
                  generalize mD t = td at *
                  generalize facesD n F = fd at *
                  generalize msD ms = md at *
                  simp [i1, lf, ss, eq1]
                cases q2 : asc t with
                | false =>
                  rw [q2] at c6
                  exact ⟨_, ret_false c6⟩
                | true =>
                  rw [q2] at c6
                  rw [ret_pass c6, Bool.true_and]
                  have tl4 := asc_len q2 tn
                  have ko := k__law_own (F := F) h.toMsgs
                  have s7 : parM 4 5 (frzM (callM N__law_own.length ps__law_own.length m__law_own (do let d ← valM (readV 0); let ds ← (do let d ← valM (readV 1); let ds ← (pure []); pure (d :: ds)); pure (d :: ds)))) (lstM (pure [])) [.vl (facesD n F), .vl (msD ms), .vl (.tuple [.str w, mD t]), .un, .un, .un, .un, .un] = some (.ok .nx [.vl (facesD n F), .vl (msD ms), .vl (.tuple [.str w, mD t]), .un, .vl (llD (ownL n F ms)), .ow false [], .un, .un]) := by
                    generalize llD (ownL n F ms) = z1 at *
                    generalize PyData.tuple [.str w, mD t] = v at *
                    generalize facesD n F = fd at *
                    generalize msD ms = md at *
                    simp [ko]
                  obtain ⟨b', lp⟩ := loop_own2 (F := F) h.toGood (.vl (facesD n F)) (.vl (msD ms)) (.vl (.tuple [.str w, mD t])) .un .un t [] .un tn (by simp only [List.length_nil]; omega)
                  have m0 : seqM (op2 idxD (readO 2) (toO (pure ⟨.int 1, false⟩))) [.vl (facesD n F), .vl (msD ms), .vl (.tuple [.str w, mD t]), .un, .vl (llD (ownL n F ms)), .ow false [], .un, .un] = some (.ok (t.map nD) [.vl (facesD n F), .vl (msD ms), .vl (.tuple [.str w, mD t]), .un, .vl (llD (ownL n F ms)), .ow false [], .un, .un]) := by
                    have it : itemsOf (mD t) = some (t.map nD) := rfl
                    generalize llD (ownL n F ms) = z1 at *
                    generalize PyData.tuple [.str w, mD t] = v at *
                    generalize mD t = td at *
                    generalize facesD n F = fd at *
                    generalize msD ms = md at *
                    simp [seqM, i1, it]
                  have f8 := run_for m0 lp
                  have f8 : Ev.forM (seqM (op2 idxD (readO 2) (toO (pure ⟨.int 1, false⟩)))) b__law_is_refusal_0 [.vl (facesD n F), .vl (msD ms), .vl (.tuple [.str w, mD t]), .un, .vl (llD (ownL n F ms)), .ow false [], .un, .un] = some (.ok .nx [.vl (facesD n F), .vl (msD ms), .vl (.tuple [.str w, mD t]), .un, .vl (llD (ownL n F ms)), .ow false ((t.flatMap (ownS F ms)).map nD), b', .un]) := f8
                  have fl : (t.flatMap (ownS F ms)).length ≤ 1000 := by have := flat_own (F := F) h.toGood t; omega
                  rw [run_then s7, run_then f8]
                  have lt : lenF [mD t] = some ⟨nD t.length, false⟩ := by simp [lenF]
                  have eS : shortB F ms t = decide (cnt (t.flatMap (ownS F ms)) < t.length) := rfl
                  rw [eS]
                  generalize t.flatMap (ownS F ms) = fl' at *
                  have ls : lenSetD (.list (fl'.map nD)) = some ⟨nD (cnt fl'), false⟩ := by simp [lenSetD, Ev.numsOf, itemsOf, fl, cnt]
                  have cl : ltD (nD (cnt fl')) (nD t.length) = some (decide (cnt fl' < t.length)) := by
                    show some (decide ((cnt fl' : Int) < (t.length : Int))) = _
                    congr 1
                    exact decide_eq_decide.mpr (by omega)
                  clear lp f8 m0 s7 c6
                  generalize decide (cnt fl' < t.length) = b at *
                  generalize nD (cnt fl') = z3 at *
                  generalize nD t.length = z4 at *
                  generalize fl'.map nD = z5 at *
                  generalize llD (ownL n F ms) = z1 at *
                  generalize PyData.tuple [.str w, mD t] = v at *
                  generalize mD t = td at *
                  generalize facesD n F = fd at *
                  generalize msD ms = md at *
                  exact ⟨[.vl fd, .vl md, .vl v, .un, .vl z1, .ow false z5, b', .un], run_thenR (run_ret (by simp [ls, i1, lt, cl]))⟩
            · have er2 : lshoB n F ms rest = false := by
                match rest, h3 with
                | [], _ => rfl
                | [x], h3 => exact absurd rfl h3
                | i :: x :: r, _ => rfl
              rw [er2, Bool.and_false]
              have el2 : eqD (nD (PyData.str w :: rest).length) (.int 2) = some false := by rw [el2, decide_eq_false h3]
              refine ⟨[.vl (facesD n F), .vl (msD ms), .vl (.tuple (.str w :: rest)), .un, .un, .un, .un, .un], ret_false ?_⟩
              generalize decide (w = "short") = b1 at *
              generalize nD (PyData.str w :: rest).length = z at *
              generalize facesD n F = fd at *
              generalize msD ms = md at *
              generalize PyData.tuple (.str w :: rest) = v at *
              cases b1 <;> simp [i0, es, hl, el2]
        · have er : lrefB n F ms (.tuple (a :: rest)) = false := by
            cases a <;> first | rfl | exact absurd rfl hs
          rw [er]
          refine ⟨[.vl (facesD n F), .vl (msD ms), .vl (.tuple (a :: rest)), .un, .un, .un, .un, .un], ret_false ?_⟩
          generalize facesD n F = fd at *
          generalize msD ms = md at *
          generalize PyData.tuple (a :: rest) = v at *
          simp [isi_tuple, isi_str, ht, e0, i0, hs]
    · have er : lrefB n F ms v = false := by
        cases v <;> first | rfl | exact absurd rfl ht
      rw [er]
      refine ⟨[.vl (facesD n F), .vl (msD ms), .vl v, .un, .un, .un, .un, .un], ret_false ?_⟩
      generalize facesD n F = fd at *
      generalize msD ms = md at *
      simp [isi_tuple, ht]
  obtain ⟨e1, he⟩ := go
  exact ret_of he)
end
end Lw

set_option Elab.async false
set_option linter.all false
set_option maxRecDepth 100000
set_option maxHeartbeats 4000000
namespace Lw
open PySem PySem.Spec L2 Ev
/-! small values -/
def scal : PyData → Bool
  | .none => true
  | .bool _ => true
  | .int i => decide (i.natAbs < 1000)
  | .str s => decide (s = "barred") || decide (s = "short") || decide (s = "Barred") || decide (s = "")
  | _ => false
def Sm (L : Nat) : Nat → PyData → Prop
  | 0, v => scal v = true
  | d + 1, v => scal v = true ∨ ∃ ds, (v = .tuple ds ∨ v = .list ds) ∧ ds.length ≤ L ∧ ∀ x ∈ ds, Sm L d x
theorem sm_scal {L : Nat} : ∀ {d : Nat} {v : PyData}, scal v = true → Sm L d v
  | 0, _, h => h
  | _ + 1, _, h => .inl h
theorem sm_up {L L' : Nat} (hL : L ≤ L') : ∀ {d d' : Nat} {v : PyData}, Sm L d v → d ≤ d' → Sm L' d' v
  | 0, d', v, h, _ => sm_scal h
  | d + 1, 0, v, _, hd => absurd hd (by omega)
  | d + 1, d' + 1, v, h, hd => by
    rcases h with h | ⟨ds, h1, h2, h3⟩
    · exact .inl h
    · exact .inr ⟨ds, h1, by omega, fun x hx => sm_up hL (h3 x hx) (by omega)⟩
theorem sm_tup {L d : Nat} {ds : List PyData} (hl : ds.length ≤ L) (h : ∀ x ∈ ds, Sm L d x) : Sm L (d + 1) (.tuple ds) := .inr ⟨ds, .inl rfl, hl, h⟩
theorem sm_lst {L d : Nat} {ds : List PyData} (hl : ds.length ≤ L) (h : ∀ x ∈ ds, Sm L d x) : Sm L (d + 1) (.list ds) := .inr ⟨ds, .inr rfl, hl, h⟩
theorem sm_of_tup {L d : Nat} {ds : List PyData} (h : Sm L d (.tuple ds)) : ∃ d', d = d' + 1 ∧ ds.length ≤ L ∧ ∀ x ∈ ds, Sm L d' x := by
  cases d with
  | zero => exact absurd h (by simp [Sm, scal])
  | succ d =>
    rcases h with h | ⟨es, h1, h2, h3⟩
    · exact absurd h (by simp [scal])
    · rcases h1 with h1 | h1
      · cases h1
        exact ⟨d, rfl, h2, h3⟩
      · cases h1
def wtS (L : Nat) : Nat → Nat
  | 0 => 11
  | d + 1 => 11 + L * (wtS L d + 1)
theorem scal_tame {v : PyData} (h : scal v = true) : Tame 0 11 v := by
  cases v with
  | none => exact tame_none.up (by decide) (by decide)
  | bool b => exact (tame_bool b).up (by decide) (by decide)
  | int i => exact tame_int (by simpa [scal] using h)
  | str s =>
    have h : s = "barred" ∨ s = "short" ∨ s = "Barred" ∨ s = "" := by simpa [scal, or_assoc] using h
    rcases h with rfl | rfl | rfl | rfl
    · exact ⟨by decide, by decide, by decide, by decide⟩
    · exact ⟨by decide, by decide, by decide, by decide⟩
    · exact ⟨by decide, by decide, by decide, by decide⟩
    · exact ⟨by decide, by decide, by decide, by decide⟩
  | _ => cases h
theorem wtS_ge (L : Nat) : ∀ d, 11 ≤ wtS L d
  | 0 => Nat.le_refl _
  | d + 1 => by unfold wtS; omega
theorem sm_tame {L : Nat} : ∀ {d : Nat} {v : PyData}, Sm L d v → Tame d (wtS L d) v
  | 0, v, h => scal_tame h
  | d + 1, v, h => by
    rcases h with h | ⟨ds, h1, h2, h3⟩
    · exact (scal_tame h).up (Nat.zero_le _) (wtS_ge L _)
    · rcases h1 with rfl | rfl
      · exact (tame_tup (fun x hx => sm_tame (h3 x hx)) h2).up (Nat.le_refl _) (Nat.le_add_left _ _)
      · exact (tame_lst (fun x hx => sm_tame (h3 x hx)) h2).up (Nat.le_refl _) (Nat.le_add_left _ _)
theorem lay_all : ∀ {ds : List PyData}, (∀ x ∈ ds, x.canLay0 = true) → PyData.canLayAll0 ds = true
  | [], _ => rfl
  | x :: ds, h => by
    simp only [PyData.canLayAll0, h x List.mem_cons_self, lay_all fun y hy => h y (List.mem_cons_of_mem _ hy), Bool.and_self]
theorem scal_lay {v : PyData} (h : scal v = true) : v.canLay0 = true := by
  cases v with
  | str s =>
    have h : s = "barred" ∨ s = "short" ∨ s = "Barred" ∨ s = "" := by simpa [scal, or_assoc] using h
    rcases h with rfl | rfl | rfl | rfl <;> decide +kernel
  | none => rfl
  | bool b => rfl
  | int i => rfl
  | _ => cases h
theorem sm_lay {L : Nat} : ∀ {d : Nat} {v : PyData}, Sm L d v → v.canLay0 = true
  | 0, v, h => scal_lay h
  | d + 1, v, h => by
    rcases h with h | ⟨ds, h1, h2, h3⟩
    · exact scal_lay h
    · rcases h1 with rfl | rfl
      · simp only [PyData.canLay0]
        exact lay_all fun x hx => sm_lay (h3 x hx)
      · simp only [PyData.canLay0]
        exact lay_all fun x hx => sm_lay (h3 x hx)
theorem sm_shaped {L d : Nat} {v : PyData} (h : Sm L d v) (hd : d ≤ 20) : SeqAt.shaped v = true := by
  unfold SeqAt.shaped
  rw [Bool.and_eq_true]
  exact ⟨sm_lay h, decide_eq_true (Nat.le_trans (sm_tame h).dp (Nat.le_trans hd (by decide)))⟩
theorem sm_ok {L d : Nat} {v : PyData} (h : Sm L d v) (hd : d ≤ 20) (hL : L ≤ 50) : Ok2 v := by
  refine ⟨sm_shaped h hd, fun ds e x hx es e2 => ?_⟩
  subst e
  obtain ⟨d', rfl, _, h3⟩ := sm_of_tup h
  have hx := h3 x hx
  subst e2
  obtain ⟨d2, rfl, l2, _⟩ := sm_of_tup hx
  exact ⟨sm_shaped hx (by omega), by omega⟩
theorem cut_mem {ds : List PyData} {lo hi : Option Int} : (∀ x ∈ cutD ds lo hi, x ∈ ds) ∧ (cutD ds lo hi).length ≤ ds.length := by
  unfold cutD
  refine ⟨fun x hx => List.mem_of_mem_drop (List.mem_of_mem_take hx), ?_⟩
  rw [List.length_take, List.length_drop]
  omega
/-- one of eight -/
theorem pick8 {a b : Int} {k : Nat} (p : Pot a b) (h1 : 1 ≤ k) (h2 : k ≤ 900) (v : PyData) (L : Nat) (hL : 1 ≤ L) : ∃ (r : PyData) (a' b' : Int), Sm L 1 r ∧ Pot a' b' ∧
    retM (callPM 0 N__law_pick.length ps__law_pick.length m__law_pick (do let d ← valM (lstM (do let d ← valM (callPM 0 N__law_draw.length ps__law_draw.length m__law_draw (do let d ← valM (readV 2); let ds ← (pure []); pure (d :: ds))); let ds ← (do let d ← valM (callPM 0 N__law_draw.length ps__law_draw.length m__law_draw (do let d ← valM (readV 2); let ds ← (pure []); pure (d :: ds))); let ds ← (do let d ← valM (readV 2); let ds ← (do let d ← valM (op1 negD (toO (pure ⟨.int 1, false⟩))); let ds ← (do let d ← valM (pure ⟨.bool true, false⟩); let ds ← (do let d ← valM (pure ⟨.none, false⟩); let ds ← (do let d ← valM (tupM (do let d ← valM (pure ⟨.int 0, false⟩); let ds ← (pure []); pure (d :: ds))); let ds ← (do let d ← valM (tupM (pure [])); let ds ← (pure []); pure (d :: ds)); pure (d :: ds)); pure (d :: ds)); pure (d :: ds)); pure (d :: ds)); pure (d :: ds)); pure (d :: ds)); pure (d :: ds))); let ds ← (pure []); pure (d :: ds))) [.ow true (potL a b), .vl v, .vl (nD k), .un] = some (.ok (.rt ⟨r, false⟩) [.ow true (potL a' b'), .vl v, .vl (nD k), .un]) := by
  obtain ⟨v1, a1, b1, hv1, p1, r1⟩ := k_draw (i := 0) (c := true) (e := [.ow true (potL a b), .vl v, .vl (nD k), .un]) p h1 (by omega) rfl
  obtain ⟨v2, a2, b2, hv2, p2, r2⟩ := k_draw (i := 0) (c := true) (e := [.ow true (potL a1 b1), .vl v, .vl (nD k), .un]) p1 h1 (by omega) rfl
  obtain ⟨r, a3, b3, hr, p3, r3⟩ := k_pick (i := 0) (c := true) (e := [.ow true (potL a2 b2), .vl v, .vl (nD k), .un]) (fun d : PyData => d) [nD v1, nD v2, nD k, .int (-1), .bool true, .none, .tuple [.int 0], .tuple []] p2 (by simp) (by simp) rfl
  have r1 : runPM 0 N__law_draw.length ps__law_draw.length m__law_draw [nD k] [.ow true (potL a b), .vl v, .vl (nD k), .un] = some (.ok ⟨nD v1, false⟩ [.ow true (potL a1 b1), .vl v, .vl (nD k), .un]) := r1
  have r2 : runPM 0 N__law_draw.length ps__law_draw.length m__law_draw [nD k] [.ow true (potL a1 b1), .vl v, .vl (nD k), .un] = some (.ok ⟨nD v2, false⟩ [.ow true (potL a2 b2), .vl v, .vl (nD k), .un]) := r2
  have r3 : runPM 0 N__law_pick.length ps__law_pick.length m__law_pick [.list [nD v1, nD v2, nD k, .int (-1), .bool true, .none, .tuple [.int 0], .tuple []]] [.ow true (potL a2 b2), .vl v, .vl (nD k), .un] = some (.ok ⟨r, false⟩ [.ow true (potL a3 b3), .vl v, .vl (nD k), .un]) := r3
  have ng : negD (.int 1) = some ⟨.int (-1), false⟩ := rfl
  refine ⟨r, a3, b3, ?_, p3, run_ret ?_⟩
  · have hr : r = nD v1 ∨ r = nD v2 ∨ r = nD k ∨ r = .int (-1) ∨ r = .bool true ∨ r = .none ∨ r = .tuple [.int 0] ∨ r = .tuple [] := by simpa using hr
    rcases hr with rfl | rfl | rfl | rfl | rfl | rfl | rfl | rfl
    · exact sm_scal (by simp only [scal, decide_eq_true_eq]; omega)
    · exact sm_scal (by simp only [scal, decide_eq_true_eq]; omega)
    · exact sm_scal (by simp only [scal, decide_eq_true_eq]; omega)
    · exact sm_scal (by decide)
    · exact sm_scal rfl
    · exact sm_scal rfl
    · exact sm_tup (by simpa using hL) fun x hx => by
        have : x = .int 0 := by simpa using hx
        subst this
        exact sm_scal (by decide)
    · exact sm_tup (by simp) fun x hx => by cases hx
  · generalize potL a b = q at *
    generalize potL a1 b1 = q1 at *
    generalize potL a2 b2 = q2 at *
    generalize potL a3 b3 = q3 at *
    generalize nD k = kk at *
    generalize nD v1 = w1 at *
    generalize nD v2 = w2 at *
    have m8 : 8 ≤ most := by decide
    simp [r1, r2, r3, ng, m8]
/-- one of four words, or none -/
theorem pick5 {a b : Int} (p : Pot a b) (v w : PyData) (L : Nat) : ∃ (r : PyData) (a' b' : Int), Sm L 0 r ∧ Pot a' b' ∧
    retM (callPM 0 N__law_pick.length ps__law_pick.length m__law_pick (do let d ← valM (lstM (do let d ← valM (pure ⟨.str "barred", false⟩); let ds ← (do let d ← valM (pure ⟨.str "short", false⟩); let ds ← (do let d ← valM (pure ⟨.str "Barred", false⟩); let ds ← (do let d ← valM (pure ⟨.str "", false⟩); let ds ← (do let d ← valM (pure ⟨.none, false⟩); let ds ← (pure []); pure (d :: ds)); pure (d :: ds)); pure (d :: ds)); pure (d :: ds)); pure (d :: ds))); let ds ← (pure []); pure (d :: ds))) [.ow true (potL a b), .vl v, .vl w, .un] = some (.ok (.rt ⟨r, false⟩) [.ow true (potL a' b'), .vl v, .vl w, .un]) := by
  obtain ⟨r, a3, b3, hr, p3, r3⟩ := k_pick (i := 0) (c := true) (e := [.ow true (potL a b), .vl v, .vl w, .un]) (fun d : PyData => d) [.str "barred", .str "short", .str "Barred", .str "", .none] p (by simp) (by simp) rfl
  have r3 : runPM 0 N__law_pick.length ps__law_pick.length m__law_pick [.list [.str "barred", .str "short", .str "Barred", .str "", .none]] [.ow true (potL a b), .vl v, .vl w, .un] = some (.ok ⟨r, false⟩ [.ow true (potL a3 b3), .vl v, .vl w, .un]) := r3
  refine ⟨r, a3, b3, ?_, p3, run_ret ?_⟩
  · have hr : r = .str "barred" ∨ r = .str "short" ∨ r = .str "Barred" ∨ r = .str "" ∨ r = .none := by simpa using hr
    rcases hr with rfl | rfl | rfl | rfl | rfl <;> first | exact (by decide : scal (.str "barred") = true) | exact (by decide : scal (.str "short") = true) | exact (by decide : scal (.str "Barred") = true) | exact (by decide : scal (.str "") = true) | exact (rfl : scal .none = true)
  · generalize potL a b = q at *
    generalize potL a3 b3 = q3 at *
    have m5 : 5 ≤ most := by decide
    simp [r3, m5]
end Lw

set_option Elab.async false
set_option linter.all false
set_option maxRecDepth 100000
set_option maxHeartbeats 4000000
namespace Lw
open PySem PySem.Spec L2 Ev
theorem sIx_nat {l i d : Nat} (h : i ≤ l) : HT.sIx l d (some (i : Int)) = i := by
  rw [HT.sIx_nat]
  omega
theorem cut_lo {ds : List PyData} {i : Nat} (h : i ≤ ds.length) : cutD ds (some (i : Int)) none = ds.drop i := by
  unfold cutD
  have e2 : HT.sIx ds.length ds.length none = ds.length := rfl
  rw [sIx_nat h, e2]
  exact List.take_of_length_le (by simp)
theorem cut_hi {ds : List PyData} {i : Nat} (h : i ≤ ds.length) : cutD ds none (some (i : Int)) = ds.take i := by
  unfold cutD
  have e2 : HT.sIx ds.length 0 none = 0 := rfl
  rw [sIx_nat h, e2]
  simp
/-- one of four turns -/
theorem pick4 {a b : Int} (p : Pot a b) {ds : List PyData} {L d : Nat} (hd : ds ≠ []) (hl : ds.length ≤ L) (hL : L ≤ 50) (hs : ∀ x ∈ ds, Sm L d x) (w : PyData) : ∃ (r : PyData) (a' b' : Int), Sm (L + 1) (d + 1) r ∧ Pot a' b' ∧
    retM (callPM 0 N__law_pick.length ps__law_pick.length m__law_pick (do let d ← valM (lstM (do let d ← valM (op1L listF (readO 1)); let ds ← (do let d ← valM (op1 revD (readO 1)); let ds ← (do let d ← valM (slcM (readO 1) (partM none) (partM (some (toO (op1 negD (toO (pure ⟨.int 1, false⟩))))))); let ds ← (do let d ← valM (op2 addD (readO 1) (toO (slcM (readO 1) (partM none) (partM (some (toO (pure ⟨.int 1, false⟩))))))); let ds ← (pure []); pure (d :: ds)); pure (d :: ds)); pure (d :: ds)); pure (d :: ds))); let ds ← (pure []); pure (d :: ds))) [.ow true (potL a b), .vl (.tuple ds), .vl w, .un] = some (.ok (.rt ⟨r, false⟩) [.ow true (potL a' b'), .vl (.tuple ds), .vl w, .un]) := by
  have l1 : 1 ≤ ds.length := by
    cases ds with
    | nil => exact absurd rfl hd
    | cons => simp
  have c1 : cutD ds none (some 1) = ds.take 1 := cut_hi (i := 1) l1
  obtain ⟨r, a3, b3, hr, p3, r3⟩ := k_pick (i := 0) (c := true) (e := [.ow true (potL a b), .vl (.tuple ds), .vl w, .un]) (fun d : PyData => d) [.list ds, .tuple ds.reverse, .tuple (cutD ds none (some (-1))), .tuple (ds ++ ds.take 1)] p (by simp) (by simp) rfl
  have r3 : runPM 0 N__law_pick.length ps__law_pick.length m__law_pick [.list [.list ds, .tuple ds.reverse, .tuple (cutD ds none (some (-1))), .tuple (ds ++ ds.take 1)]] [.ow true (potL a b), .vl (.tuple ds), .vl w, .un] = some (.ok ⟨r, false⟩ [.ow true (potL a3 b3), .vl (.tuple ds), .vl w, .un]) := r3
  have up : ∀ x ∈ ds, Sm (L + 1) d x := fun x hx => sm_up (by omega) (hs x hx) (Nat.le_refl _)
  have ng : negD (.int 1) = some ⟨.int (-1), false⟩ := rfl
  have lf : listF [.tuple ds] = some ⟨.list ds, true⟩ := rfl
  have rv : revD (.tuple ds) = some ⟨.tuple ds.reverse, false⟩ := rfl
  have s1 : slcD none (some (-1)) (.tuple ds) = some ⟨.tuple (cutD ds none (some (-1))), false⟩ := rfl
  have s2 : slcD none (some 1) (.tuple ds) = some ⟨.tuple (ds.take 1), false⟩ := by
    show lit (.tuple (cutD ds none (some 1))) = _
    rw [c1]
  have ad : addD (.tuple ds) (.tuple (ds.take 1)) = some ⟨.tuple (ds ++ ds.take 1), false⟩ := by
    show (if ds.length + (ds.take 1).length ≤ most then lit (.tuple (ds ++ ds.take 1)) else none) = _
    rw [if_pos (by rw [List.length_take]; unfold most; omega)]
  refine ⟨r, a3, b3, ?_, p3, run_ret ?_⟩
  · have hr : r = .list ds ∨ r = .tuple ds.reverse ∨ r = .tuple (cutD ds none (some (-1))) ∨ r = .tuple (ds ++ ds.take 1) := by simpa using hr
    rcases hr with rfl | rfl | rfl | rfl
    · exact sm_lst (by omega) up
    · exact sm_tup (by simp; omega) fun x hx => up x (List.mem_reverse.mp hx)
    · have cm := cut_mem (ds := ds) (lo := none) (hi := some (-1))
      exact sm_tup (by omega) fun x hx => up x (cm.1 x hx)
    · refine sm_tup (by rw [List.length_append, List.length_take]; omega) fun x hx => ?_
      rcases List.mem_append.mp hx with hx | hx
      · exact up x hx
      · exact up x (List.mem_of_mem_take hx)
  · generalize potL a b = q at *
    generalize potL a3 b3 = q3 at *
    generalize cutD ds none (some (-1)) = z1 at *
    generalize ds ++ ds.take 1 = z2 at *
    generalize ds.take 1 = z3 at *
    generalize ds.reverse = z4 at *
    have m4 : 4 ≤ most := by decide
    generalize PyData.list ds = z5 at *
    generalize PyData.tuple ds = z6 at *
    simp [r3, m4, ng, lf, rv, s1, s2, ad, slcM, partM]
theorem bent_run {L k : Nat} (h1 : 1 ≤ L) (hL : L ≤ 50) (k1 : 1 ≤ k) (k2 : k ≤ 900) : ∀ (fuel d : Nat) (v : PyData) (a b : Int), d < fuel → d ≤ 10 → Sm L d v → Pot a b →
    ∃ (r : PyData) (a' b' : Int), Sm (L + 1) (d + 1) r ∧ Pot a' b' ∧ RetP (m__law_bent fuel) [.ow true (potL a b), .vl v, .vl (nD k), .un] ⟨r, false⟩ (potL a' b')
  | 0, d, v, a, b, hf, _, _, _ => absurd hf (by omega)
  | fuel + 1, d, v, a, b, hf, hd, hs, p => by
    by_cases hst : v.isStr = true
    · obtain ⟨r, a', b', q1, q2, q3⟩ := pick5 p v (nD k) (L + 1)
      refine ⟨r, a', b', sm_up (Nat.le_refl _) q1 (by omega), q2, [.ow true (potL a' b'), .vl v, .vl (nD k), .un], ?_, rfl⟩
      rw [m__law_bent]
      refine run_thenR ?_
      have c1 : (asB (op1 (isiD "str") (readO 1))) [.ow true (potL a b), .vl v, .vl (nD k), .un] = some (.ok true [.ow true (potL a b), .vl v, .vl (nD k), .un]) := by
        generalize potL a b = q at *
        simp [isi_str, hst]
      rw [run_if c1, if_pos rfl]
      exact run_thenR q3
    · have c1 : (asB (op1 (isiD "str") (readO 1))) [.ow true (potL a b), .vl v, .vl (nD k), .un] = some (.ok false [.ow true (potL a b), .vl v, .vl (nD k), .un]) := by
        generalize potL a b = q at *
        simp [isi_str, hst]
      have sh := sm_shaped hs (by omega)
      -- the second look
      have fin8 : ∀ {a b : Int}, Pot a b → ∃ (r : PyData) (a' b' : Int), Sm (L + 1) (d + 1) r ∧ Pot a' b' ∧ retM (callPM 0 N__law_pick.length ps__law_pick.length m__law_pick (do let d ← valM (lstM (do let d ← valM (callPM 0 N__law_draw.length ps__law_draw.length m__law_draw (do let d ← valM (readV 2); let ds ← (pure []); pure (d :: ds))); let ds ← (do let d ← valM (callPM 0 N__law_draw.length ps__law_draw.length m__law_draw (do let d ← valM (readV 2); let ds ← (pure []); pure (d :: ds))); let ds ← (do let d ← valM (readV 2); let ds ← (do let d ← valM (op1 negD (toO (pure ⟨.int 1, false⟩))); let ds ← (do let d ← valM (pure ⟨.bool true, false⟩); let ds ← (do let d ← valM (pure ⟨.none, false⟩); let ds ← (do let d ← valM (tupM (do let d ← valM (pure ⟨.int 0, false⟩); let ds ← (pure []); pure (d :: ds))); let ds ← (do let d ← valM (tupM (pure [])); let ds ← (pure []); pure (d :: ds)); pure (d :: ds)); pure (d :: ds)); pure (d :: ds)); pure (d :: ds)); pure (d :: ds)); pure (d :: ds)); pure (d :: ds))); let ds ← (pure []); pure (d :: ds))) [.ow true (potL a b), .vl v, .vl (nD k), .un] = some (.ok (.rt ⟨r, false⟩) [.ow true (potL a' b'), .vl v, .vl (nD k), .un]) := fun p => by
        obtain ⟨r, a', b', q1, q2, q3⟩ := pick8 p k1 k2 v (L + 1) (by omega)
        exact ⟨r, a', b', sm_up (Nat.le_refl _) q1 (by omega), q2, q3⟩
      by_cases htup : v.isTuple = true
      · obtain ⟨ds, rfl⟩ := tup_of htup
        obtain ⟨d', rfl, dl, dm⟩ := sm_of_tup hs
        have e0 := eqD_t0 sh
        by_cases hnil : ds = []
        · subst hnil
          obtain ⟨r, a', b', q1, q2, q3⟩ := fin8 p
          have c2 : (Ev.orM (Ev.notM (asB (op1 (isiD "tuple") (readO 1)))) (Ev.orM (asB (op2 (cmpD .eq) (readO 1) (toO (tupM (pure []))))) (asB (op2 (cmpD .eq) (toO (callPM 0 N__law_draw.length ps__law_draw.length m__law_draw (do let d ← valM (pure ⟨.int 6, false⟩); let ds ← (pure []); pure (d :: ds)))) (toO (pure ⟨.int 0, false⟩)))))) [.ow true (potL a b), .vl (.tuple []), .vl (nD k), .un] = some (.ok true [.ow true (potL a b), .vl (.tuple []), .vl (nD k), .un]) := by
            have e0 : eqD (.tuple []) (.tuple []) = some true := e0
            generalize potL a b = q at *
            simp [isi_tuple, htup, e0]
          refine ⟨r, a', b', q1, q2, [.ow true (potL a' b'), .vl (.tuple []), .vl (nD k), .un], ?_, rfl⟩
          rw [m__law_bent, run_then (by rw [run_if c1, if_neg (by simp)]; exact (rfl))]
          refine run_thenR ?_
          rw [run_if c2, if_pos rfl]
          exact run_thenR q3
        · have e0 : eqD (.tuple ds) (.tuple []) = some false := by rw [e0, decide_eq_false hnil]
          obtain ⟨v6, a1, b1, hv6, p1, r1⟩ := k_draw (i := 0) (c := true) (k := 6) (e := [.ow true (potL a b), .vl (.tuple ds), .vl (nD k), .un]) p (by decide) (by decide) rfl
          have r1 : runPM 0 N__law_draw.length ps__law_draw.length m__law_draw [.int 6] [.ow true (potL a b), .vl (.tuple ds), .vl (nD k), .un] = some (.ok ⟨nD v6, false⟩ [.ow true (potL a1 b1), .vl (.tuple ds), .vl (nD k), .un]) := r1
          have c2 : (Ev.orM (Ev.notM (asB (op1 (isiD "tuple") (readO 1)))) (Ev.orM (asB (op2 (cmpD .eq) (readO 1) (toO (tupM (pure []))))) (asB (op2 (cmpD .eq) (toO (callPM 0 N__law_draw.length ps__law_draw.length m__law_draw (do let d ← valM (pure ⟨.int 6, false⟩); let ds ← (pure []); pure (d :: ds)))) (toO (pure ⟨.int 0, false⟩)))))) [.ow true (potL a b), .vl (.tuple ds), .vl (nD k), .un] = some (.ok (decide ((v6 : Int) = 0)) [.ow true (potL a1 b1), .vl (.tuple ds), .vl (nD k), .un]) := by
            generalize potL a b = q at *
            generalize potL a1 b1 = q1 at *
            generalize PyData.tuple ds = v at *
            simp [isi_tuple, htup, e0, r1]
          by_cases z6 : (v6 : Int) = 0
          · rw [decide_eq_true z6] at c2
            obtain ⟨r, a', b', q1, q2, q3⟩ := fin8 p1
            refine ⟨r, a', b', q1, q2, [.ow true (potL a' b'), .vl (.tuple ds), .vl (nD k), .un], ?_, rfl⟩
            rw [m__law_bent, run_then (by rw [run_if c1, if_neg (by simp)]; exact (rfl))]
            refine run_thenR ?_
            rw [run_if c2, if_pos rfl]
            exact run_thenR q3
          · rw [decide_eq_false z6] at c2
            obtain ⟨w6, a2, b2, hw6, p2, r2⟩ := k_draw (i := 0) (c := true) (k := 6) (e := [.ow true (potL a1 b1), .vl (.tuple ds), .vl (nD k), .un]) p1 (by decide) (by decide) rfl
            have r2 : runPM 0 N__law_draw.length ps__law_draw.length m__law_draw [.int 6] [.ow true (potL a1 b1), .vl (.tuple ds), .vl (nD k), .un] = some (.ok ⟨nD w6, false⟩ [.ow true (potL a2 b2), .vl (.tuple ds), .vl (nD k), .un]) := r2
            have c3 : (asB (op2 (cmpD .eq) (toO (callPM 0 N__law_draw.length ps__law_draw.length m__law_draw (do let d ← valM (pure ⟨.int 6, false⟩); let ds ← (pure []); pure (d :: ds)))) (toO (pure ⟨.int 0, false⟩)))) [.ow true (potL a1 b1), .vl (.tuple ds), .vl (nD k), .un] = some (.ok (decide ((w6 : Int) = 0)) [.ow true (potL a2 b2), .vl (.tuple ds), .vl (nD k), .un]) := by
              generalize potL a1 b1 = q at *
              generalize potL a2 b2 = q1 at *
              generalize PyData.tuple ds = v at *
              simp [r2]
            by_cases zw : (w6 : Int) = 0
            · rw [decide_eq_true zw] at c3
              obtain ⟨r, a', b', q1, q2, q3⟩ := pick4 p2 hnil dl hL dm (nD k)
              refine ⟨r, a', b', sm_up (Nat.le_refl _) q1 (by omega), q2, [.ow true (potL a' b'), .vl (.tuple ds), .vl (nD k), .un], ?_, rfl⟩
              rw [m__law_bent, run_then (by rw [run_if c1, if_neg (by simp)]; exact (rfl)), run_then (by rw [run_if c2, if_neg (by simp)]; exact (rfl))]
              refine run_thenR ?_
              rw [run_if c3, if_pos rfl]
              exact run_thenR q3
            · rw [decide_eq_false zw] at c3
              have dl1 : 1 ≤ ds.length := by
                cases ds with
                | nil => exact absurd rfl hnil
                | cons => simp
              obtain ⟨at_, a3, b3, hat, p3, r3⟩ := k_draw (i := 0) (c := true) (e := [.ow true (potL a2 b2), .vl (.tuple ds), .vl (nD k), .un]) p2 dl1 (by omega) rfl
              have r3 : runPM 0 N__law_draw.length ps__law_draw.length m__law_draw [nD ds.length] [.ow true (potL a2 b2), .vl (.tuple ds), .vl (nD k), .un] = some (.ok ⟨nD at_, false⟩ [.ow true (potL a3 b3), .vl (.tuple ds), .vl (nD k), .un]) := r3
              have hx := dm ds[at_] (List.getElem_mem hat)
              obtain ⟨r, a4, b4, q1, q2, q3⟩ := bent_run h1 hL k1 k2 fuel d' ds[at_] a3 b3 (by omega) (by omega) hx p3
              have r4 := runPM_eq (i := 0) (n := N__law_bent.length) (np := ps__law_bent.length) (ds := [ds[at_], nD k]) (b := true) (e := [.ow true (potL a3 b3), .vl (.tuple ds), .vl (nD k), .vl (nD at_)]) rfl rfl rfl q3
              have r4 : runPM 0 N__law_bent.length ps__law_bent.length (m__law_bent fuel) [ds[at_], nD k] [.ow true (potL a3 b3), .vl (.tuple ds), .vl (nD k), .vl (nD at_)] = some (.ok ⟨r, false⟩ [.ow true (potL a4 b4), .vl (.tuple ds), .vl (nD k), .vl (nD at_)]) := r4
              have hl := len_tup ds
              have ix : idxD (.tuple ds) (nD at_) = some ⟨ds[at_], false⟩ := by
                show (atI ds (at_ : Int)).map (fun d => (⟨d, false⟩ : RV)) = _
                rw [atI_nat _ _ hat]
                rfl
              have s1 : slcD none (some (at_ : Int)) (.tuple ds) = some ⟨.tuple (ds.take at_), false⟩ := by
                show lit (.tuple (cutD ds none (some (at_ : Int)))) = _
                rw [cut_hi (by omega)]
              have s2 : slcD (some ((at_ : Int) + 1)) none (.tuple ds) = some ⟨.tuple (ds.drop (at_ + 1)), false⟩ := by
                show lit (.tuple (cutD ds (some ((at_ + 1 : Nat) : Int)) none)) = _
                rw [cut_lo (by omega)]
              have ad1 : addD (nD at_) (.int 1) = some ⟨.int ((at_ : Int) + 1), false⟩ := rfl
              have ad2 : addD (.tuple (ds.take at_)) (.tuple [r]) = some ⟨.tuple (ds.take at_ ++ [r]), false⟩ := by
                show (if (ds.take at_).length + [r].length ≤ most then lit (.tuple (ds.take at_ ++ [r])) else none) = _
                rw [if_pos (by rw [List.length_take, List.length_singleton]; unfold most; omega)]
              have ad3 : addD (.tuple (ds.take at_ ++ [r])) (.tuple (ds.drop (at_ + 1))) = some ⟨.tuple (ds.take at_ ++ [r] ++ ds.drop (at_ + 1)), false⟩ := by
                show (if (ds.take at_ ++ [r]).length + (ds.drop (at_ + 1)).length ≤ most then lit (.tuple (ds.take at_ ++ [r] ++ ds.drop (at_ + 1))) else none) = _
                rw [if_pos (by rw [List.length_append, List.length_take, List.length_singleton, List.length_drop]; unfold most; omega)]
              refine ⟨.tuple (ds.take at_ ++ [r] ++ ds.drop (at_ + 1)), a4, b4, ?_, q2, [.ow true (potL a4 b4), .vl (.tuple ds), .vl (nD k), .vl (nD at_)], ?_, rfl⟩
              · refine sm_tup (by simp only [List.length_append, List.length_take, List.length_singleton, List.length_drop]; omega) fun x hx => ?_
                rcases List.mem_append.mp hx with hx | hx
                · rcases List.mem_append.mp hx with hx | hx
                  · exact sm_up (by omega) (dm x (List.mem_of_mem_take hx)) (by omega)
                  · have : x = r := by simpa using hx
                    rw [this]
                    exact q1
                · exact sm_up (by omega) (dm x (List.mem_of_mem_drop hx)) (by omega)
              · rw [m__law_bent, run_then (by rw [run_if c1, if_neg (by simp)]; exact (rfl)), run_then (by rw [run_if c2, if_neg (by simp)]; exact (rfl)), run_then (by rw [run_if c3, if_neg (by simp)]; exact (rfl))]
                generalize ds[at_] = y at *
                generalize potL a2 b2 = w2 at *
                generalize potL a3 b3 = w3 at *
                generalize potL a4 b4 = w4 at *
                generalize nD ds.length = z1 at *
                generalize ds.take at_ ++ [r] ++ ds.drop (at_ + 1) = z2 at *
                generalize ds.take at_ ++ [r] = z3 at *
                generalize ds.take at_ = z4 at *
                generalize ds.drop (at_ + 1) = z5 at *
                generalize PyData.tuple ds = z6 at *
                rw [run_then (e1 := [.ow true w3, .vl z6, .vl (nD k), .vl (nD at_)]) (by simp [hl, r3])]
                exact run_thenR (run_ret (by simp [slcM, partM, s1, ix, r4, ad2, ad1, s2, ad3]))
      · have c2 : (Ev.orM (Ev.notM (asB (op1 (isiD "tuple") (readO 1)))) (Ev.orM (asB (op2 (cmpD .eq) (readO 1) (toO (tupM (pure []))))) (asB (op2 (cmpD .eq) (toO (callPM 0 N__law_draw.length ps__law_draw.length m__law_draw (do let d ← valM (pure ⟨.int 6, false⟩); let ds ← (pure []); pure (d :: ds)))) (toO (pure ⟨.int 0, false⟩)))))) [.ow true (potL a b), .vl v, .vl (nD k), .un] = some (.ok true [.ow true (potL a b), .vl v, .vl (nD k), .un]) := by
          generalize potL a b = q at *
          simp [isi_tuple, htup]
        obtain ⟨r, a', b', q1, q2, q3⟩ := fin8 p
        refine ⟨r, a', b', q1, q2, [.ow true (potL a' b'), .vl v, .vl (nD k), .un], ?_, rfl⟩
        rw [m__law_bent, run_then (by rw [run_if c1, if_neg (by simp)]; exact (rfl))]
        refine run_thenR ?_
        rw [run_if c2, if_pos rfl]
        exact run_thenR q3
end Lw

set_option Elab.async false
set_option linter.all false
set_option maxRecDepth 100000
set_option maxHeartbeats 4000000
namespace Lw
open PySem PySem.Spec L2 Ev
/-- one of a tuple -/
theorem pickT_run {a b : Int} (xs : List Nat) (p : Pot a b) (h0 : xs ≠ []) (hl : xs.length ≤ 1000) : ∃ (x : Nat) (a' b' : Int), x ∈ xs ∧ Pot a' b' ∧ RetP m__law_pick [.ow true (potL a b), .vl (mD xs)] ⟨nD x, false⟩ (potL a' b') := by
  have l1 : 1 ≤ xs.length := by
    cases xs with
    | nil => exact absurd rfl h0
    | cons => simp
  obtain ⟨v, a', b', hv, hp, hr⟩ := k_draw (i := 0) (c := true) (e := [.ow true (potL a b), .vl (mD xs)]) p l1 hl rfl
  have hr : runPM 0 N__law_draw.length ps__law_draw.length m__law_draw [nD xs.length] [.ow true (potL a b), .vl (mD xs)] = some (.ok ⟨nD v, false⟩ [.ow true (potL a' b'), .vl (mD xs)]) := hr
  have hi : idxD (mD xs) (nD v) = some ⟨nD xs[v], false⟩ := by
    rw [idx_tup, atI_nat _ _ hv]
    rfl
  have hn : lenF [mD xs] = some ⟨nD xs.length, false⟩ := by simp [lenF]
  refine ⟨xs[v], a', b', List.getElem_mem hv, hp, [.ow true (potL a' b'), .vl (mD xs)], ?_, rfl⟩
  generalize nD xs[v] = y at *
  generalize mD xs = z at *
  generalize potL a b = q at *
  generalize potL a' b' = q' at *
  rw [m__law_pick]
  exact run_thenR (run_ret (by simp [hn, hr, hi]))
theorem k_pickT {a b : Int} {i : Nat} {c : Bool} {e : En} (xs : List Nat) (p : Pot a b) (h0 : xs ≠ []) (hl : xs.length ≤ 1000) (hi : e[i]? = some (.ow c (potL a b))) : ∃ (x : Nat) (a' b' : Int), x ∈ xs ∧ Pot a' b' ∧ runPM i N__law_pick.length ps__law_pick.length m__law_pick [mD xs] e = some (.ok ⟨nD x, false⟩ (e.set i (.ow c (potL a' b')))) := by
  obtain ⟨x, a', b', h1, h2, h3⟩ := pickT_run xs p h0 hl
  exact ⟨x, a', b', h1, h2, runPM_eq hi rfl rfl h3⟩
section
variable {n : Nat} {F : Nat → Nat → Int} {m : List Nat} {s : Nat} {ms : List (List Nat)}
def haveL (ms : List (List Nat)) (s : Nat) : List Nat := (ms.zipIdx.filter fun p => decide (s ∈ p.1)).map (·.2)
theorem l_made_0 (hl : ms.length ≤ 100) (x0 x1 x3 x4 : Sl) : c__law_made_0 [x0, x1, .vl (msD ms), x3, x4, .un, .un, .vl (nD s)] = some (.ok ⟨lnD (haveL ms s), true⟩ [x0, x1, .vl (msD ms), x3, x4, .un, .un, .vl (nD s)]) := by
  rw [c__law_made_0, lc_t (fun p : List Nat × Nat => PyData.tuple [nD p.2, mD p.1]) nD (fun p => if s ∈ p.1 then some p.2 else none) (xs := ms.zipIdx)]
  · simp [haveL]
  · simp [enumM, seqM, itemsOf]
  · intro p hp
    refine ⟨[x0, x1, .vl (msD ms), x3, x4, .vl (nD p.2), .vl (mD p.1), .vl (nD s)], ?_, by simp⟩
    by_cases c : s ∈ p.1 <;> simp [turnM, c]
  · exact big (by simpa using hl)
  · simp
theorem have_facts (h : Fine n ms) (hs : s < n) : haveL ms s ≠ [] ∧ (haveL ms s).length ≤ 15 ∧ ∀ a ∈ haveL ms s, a < ms.length := by
  refine ⟨fun w => ?_, ?_, fun a ha => ?_⟩
  · obtain ⟨m, hm, c⟩ := List.any_eq_true.mp (h.cov s hs)
    obtain ⟨i, hi, rfl⟩ := List.mem_iff_getElem.mp hm
    have : i ∈ haveL ms s := List.mem_map.mpr ⟨(ms[i], i), List.mem_filter.mpr ⟨List.mem_zipIdx_iff_getElem?.mpr (by simp [hi]), by simpa using c⟩, rfl⟩
    rw [w] at this
    cases this
  · unfold haveL
    rw [List.length_map]
    refine Nat.le_trans (List.length_filter_le _ _) ?_
    simpa using h.l15
  · obtain ⟨p, hp, rfl⟩ := List.mem_map.mp ha
    obtain ⟨m, i⟩ := p
    have := List.snd_lt_of_mem_zipIdx (List.mem_filter.mp hp).1
    simpa using this
theorem l_made_1 {a b : Int} (h : Fine n ms) (p : Pot a b) (x3 x4 : Sl) : ∃ (t : List Nat) (a' b' : Int), t.length = n ∧ (∀ x ∈ t, x < ms.length) ∧ Pot a' b' ∧
    c__law_made_1 [.ow true (potL a b), .vl (facesD n F), .vl (msD ms), x3, x4, .un, .un, .un] = some (.ok ⟨lnD t, true⟩ [.ow true (potL a' b'), .vl (facesD n F), .vl (msD ms), x3, x4, .un, .un, .un]) := by
  have l0 : lenF [facesD n F] = some ⟨nD n, false⟩ := by simp [lenF]
  have := lc_inv (own := [7]) (mi := rng1M (toO (op1L lenF (readO 1)))) (step := turnM (nameM 7) (pure true) (callPM 0 N__law_pick.length ps__law_pick.length m__law_pick (do let d ← valM (c__law_made_0); let ds ← (pure []); pure (d :: ds)))) (e := [.ow true (potL a b), .vl (facesD n F), .vl (msD ms), x3, x4, .un, .un, .un]) nD (fun s : Int × Int => [.ow true (potL s.1 s.2), .vl (facesD n F), .vl (msD ms), x3, x4, .un, .un, .un]) (fun s rem acc => Pot s.1 s.2 ∧ (∀ x ∈ rem, x < n) ∧ ∃ t : List Nat, acc = t.map nD ∧ t.length + rem.length = n ∧ ∀ x ∈ t, x < ms.length) (List.range n) (a, b) (by
      generalize facesD n F = fd at *
      generalize msD ms = md at *
      generalize potL a b = q at *
      simp [rng1M, l0, rngD_nat h.nle]) ⟨p, fun x hx => List.mem_range.mp hx, [], rfl, by simp, by intro v hv; cases hv⟩ (fun x rem s acc ⟨hp, hr, t, h1, h2, h3⟩ => by
      have hx := hr x List.mem_cons_self
      obtain ⟨f1, f2, f3⟩ := have_facts h hx
      obtain ⟨v, a', b', hv, hp', hr'⟩ := k_pick (i := 0) (c := true) (e := [.ow true (potL s.1 s.2), .vl (facesD n F), .vl (msD ms), x3, x4, .un, .un, .vl (nD x)]) nD _ hp f1 (by omega) rfl
      have hr' : runPM 0 N__law_pick.length ps__law_pick.length m__law_pick [lnD (haveL ms x)] [.ow true (potL s.1 s.2), .vl (facesD n F), .vl (msD ms), x3, x4, .un, .un, .vl (nD x)] = some (.ok ⟨nD v, false⟩ [.ow true (potL a' b'), .vl (facesD n F), .vl (msD ms), x3, x4, .un, .un, .vl (nD x)]) := hr'
      have c0 := l_made_0 (s := x) h.len (.ow true (potL s.1 s.2)) (.vl (facesD n F)) x3 x4
      refine ⟨some (nD v), (a', b'), [.ow true (potL a' b'), .vl (facesD n F), .vl (msD ms), x3, x4, .un, .un, .vl (nD x)], ?_, rfl, hp', fun y hy => hr y (List.mem_cons_of_mem _ hy), t ++ [v], by simp [h1], by simp at h2 ⊢; omega, fun y hy => ?_⟩
      · generalize lnD (haveL ms x) = z at *
        generalize potL s.1 s.2 = q at *
        generalize potL a' b' = q' at *
        generalize facesD n F = fd at *
        generalize msD ms = md at *
        simp [turnM, c0, hr']
      · rcases List.mem_append.mp hy with hy | hy
        · exact h3 y hy
        · have : y = v := by simpa using hy
          rw [this]
          exact f3 v hv) (by have := h.n4; simp; unfold most; omega) (fun s => rfl)
  obtain ⟨s, ds, ⟨hp, _, t, h1, h2, h3⟩, hr⟩ := this
  subst h1
  exact ⟨t, s.1, s.2, by simpa using h2, h3, hp, hr⟩
theorem made_run {a b : Int} (h : Fine n ms) (p : Pot a b) : ∃ (v : PyData) (a' b' : Int), Sm 16 2 v ∧ Pot a' b' ∧ RetP m__law_made [.ow true (potL a b), .vl (facesD n F), .vl (msD ms), .un, .un, .un, .un, .un] ⟨v, false⟩ (potL a' b') := by
  have n4 := h.n4
  have l15 := h.l15
  obtain ⟨t, a1, b1, tl, ta, p1, r1⟩ := l_made_1 (F := F) h p .un .un
  have t1 : tupleF [lnD t] = some ⟨mD t, false⟩ := rfl
  have s1 : setM 3 (op1L tupleF (toO (c__law_made_1))) [.ow true (potL a b), .vl (facesD n F), .vl (msD ms), .un, .un, .un, .un, .un] = some (.ok .nx [.ow true (potL a1 b1), .vl (facesD n F), .vl (msD ms), .vl (mD t), .un, .un, .un, .un]) := by
    generalize potL a b = q at *
    generalize potL a1 b1 = q1 at *
    generalize mD t = td at *
    generalize lnD t = tl' at *
    generalize facesD n F = fd at *
    generalize msD ms = md at *
    simp [r1, t1]
  have lp := for_inv (step := b__law_made_0) (fun p : List Nat × Nat => PyData.tuple [nD p.2, mD p.1]) (fun s : (Int × Int) × List Nat × Sl × Sl => [.ow true (potL s.1.1 s.1.2), .vl (facesD n F), .vl (msD ms), .vl (mD t), .ow false (s.2.1.map nD), s.2.2.1, s.2.2.2, .un]) (fun s rem => Pot s.1.1 s.1.2 ∧ (∀ p ∈ rem, p.1 ∈ ms) ∧ s.2.1.length + rem.length = ms.length ∧ ∀ x ∈ s.2.1, x < 1000) (fun q rem s ⟨hp, h1, h2, h3⟩ => by
    have hm := h1 q List.mem_cons_self
    have mm := h.ok _ hm
    simp only [List.length_cons] at h2
    have g : (s.2.1.map nD).length < most := by rw [List.length_map]; unfold most; omega
    have s0 : tupT 2 (consM (nameM 5) (consM (nameM 6) (nilM))) (.tuple [nD q.2, mD q.1]) [.ow true (potL s.1.1 s.1.2), .vl (facesD n F), .vl (msD ms), .vl (mD t), .ow false (s.2.1.map nD), s.2.2.1, s.2.2.2, .un] = some (.ok () [.ow true (potL s.1.1 s.1.2), .vl (facesD n F), .vl (msD ms), .vl (mD t), .ow false (s.2.1.map nD), .vl (nD q.2), .vl (mD q.1), .un]) := by
      generalize potL s.1.1 s.1.2 = w at *
      generalize s.2.1.map nD = ac at *
      generalize facesD n F = fd at *
      generalize msD ms = md at *
      simp
    have ii := in_mD q.2 t
    by_cases c : q.2 ∈ t
    · have ix := index_mD c
      have ct : t.idxOf q.2 < 1000 := by
        have := List.idxOf_lt_length_iff.mpr c
        omega
      refine ⟨(s.1, s.2.1 ++ [t.idxOf q.2], .vl (nD q.2), .vl (mD q.1)), ?_, hp, fun p hp => h1 p (List.mem_cons_of_mem _ hp), by simp only [List.length_append, List.length_singleton]; omega, fun x hx => ?_⟩
      · have ea : (s.2.1 ++ [t.idxOf q.2]).map nD = s.2.1.map nD ++ [nD (t.idxOf q.2)] := by simp
        simp only [ea]
        rw [b__law_made_0, bodyM, run_bind, s0, bndR_ok]
        have ii : inD (nD q.2) (mD t) = some true := by rw [ii, decide_eq_true c]
        have isT : (mD t).isTuple = true := rfl
        generalize nD (t.idxOf q.2) = y at *
        generalize potL s.1.1 s.1.2 = w at *
        generalize s.2.1.map nD = ac at *
        generalize facesD n F = fd at *
        generalize msD ms = md at *
        generalize mD t = td at *
        generalize mD q.1 = mq at *
        refine (run_then (e1 := [.ow true w, .vl fd, .vl md, .vl td, .ow false (ac ++ [y]), .vl (nD q.2), .vl mq, .un]) (by simp [appM, ii, indexM, isT, ix, g])).trans rfl
      · rcases List.mem_append.mp hx with hx | hx
        · exact h3 x hx
        · have : x = t.idxOf q.2 := by simpa using hx
          rw [this]
          exact ct
    · obtain ⟨v, a', b', hv, hp', hr'⟩ := k_pickT (i := 0) (c := true) (e := [.ow true (potL s.1.1 s.1.2), .vl (facesD n F), .vl (msD ms), .vl (mD t), .ow false (s.2.1.map nD), .vl (nD q.2), .vl (mD q.1), .un]) q.1 hp (h.ne _ hm) (by have := mm.len; omega) rfl
      have hr' : runPM 0 N__law_pick.length ps__law_pick.length m__law_pick [mD q.1] [.ow true (potL s.1.1 s.1.2), .vl (facesD n F), .vl (msD ms), .vl (mD t), .ow false (s.2.1.map nD), .vl (nD q.2), .vl (mD q.1), .un] = some (.ok ⟨nD v, false⟩ [.ow true (potL a' b'), .vl (facesD n F), .vl (msD ms), .vl (mD t), .ow false (s.2.1.map nD), .vl (nD q.2), .vl (mD q.1), .un]) := hr'
      have ct : v < 1000 := by have := mm.lt v hv; omega
      refine ⟨((a', b'), s.2.1 ++ [v], .vl (nD q.2), .vl (mD q.1)), ?_, hp', fun p hp => h1 p (List.mem_cons_of_mem _ hp), by simp only [List.length_append, List.length_singleton]; omega, fun x hx => ?_⟩
      · have ea : (s.2.1 ++ [v]).map nD = s.2.1.map nD ++ [nD v] := by simp
        simp only [ea]
        rw [b__law_made_0, bodyM, run_bind, s0, bndR_ok]
        have ii : inD (nD q.2) (mD t) = some false := by rw [ii, decide_eq_false c]
        generalize nD v = y at *
        generalize potL s.1.1 s.1.2 = w at *
        generalize potL a' b' = w2 at *
        generalize s.2.1.map nD = ac at *
        generalize facesD n F = fd at *
        generalize msD ms = md at *
        generalize mD t = td at *
        generalize mD q.1 = mq at *
        refine (run_then (e1 := [.ow true w2, .vl fd, .vl md, .vl td, .ow false (ac ++ [y]), .vl (nD q.2), .vl mq, .un]) (by simp [appM, ii, hr', g])).trans rfl
      · rcases List.mem_append.mp hx with hx | hx
        · exact h3 x hx
        · have : x = v := by simpa using hx
          rw [this]
          exact ct) ms.zipIdx ((a1, b1), [], .un, .un) ⟨p1, fun p hp => by
        obtain ⟨x, i⟩ := p
        exact List.fst_mem_of_mem_zipIdx hp, by simp, fun x hx => by cases hx⟩
  obtain ⟨s, f1, hp, _, rl, ra⟩ := lp
  have rl : s.2.1.length = ms.length := by simpa using rl
  have m0 : enumM (readV 2) [.ow true (potL a1 b1), .vl (facesD n F), .vl (msD ms), .vl (mD t), .ow false [], .un, .un, .un] = some (.ok (ms.zipIdx.map fun p => PyData.tuple [nD p.2, mD p.1]) [.ow true (potL a1 b1), .vl (facesD n F), .vl (msD ms), .vl (mD t), .ow false [], .un, .un, .un]) := by
    generalize potL a1 b1 = w at *
    generalize facesD n F = fd at *
    generalize mD t = td at *
    simp [enumM, seqM, itemsOf]
  have f2 := run_for m0 f1
  have t2 : tupleF [lnD s.2.1] = some ⟨mD s.2.1, false⟩ := rfl
  refine ⟨.tuple [mD t, mD s.2.1], s.1.1, s.1.2, ?_, hp, [.ow true (potL s.1.1 s.1.2), .vl (facesD n F), .vl (msD ms), .vl (mD t), .ow false (s.2.1.map nD), s.2.2.1, s.2.2.2, .un], ?_, rfl⟩
  · refine sm_tup (by simp) fun x hx => ?_
    have sc : ∀ a : Nat, a < 1000 → Sm 16 0 (nD a) := fun a ha => by
      show decide ((a : Int).natAbs < 1000) = true
      exact decide_eq_true (by omega)
    rcases List.mem_cons.mp hx with rfl | hx
    · refine sm_tup (by rw [List.length_map]; omega) fun y hy => ?_
      obtain ⟨a, ha, rfl⟩ := List.mem_map.mp hy
      exact sc a (by have := ta a ha; omega)
    · have : x = mD s.2.1 := by simpa using hx
      subst this
      refine sm_tup (by rw [List.length_map]; omega) fun y hy => ?_
      obtain ⟨a, ha, rfl⟩ := List.mem_map.mp hy
      exact sc a (ra a ha)
  · rw [m__law_made, run_then s1, run_then (e1 := [.ow true (potL a1 b1), .vl (facesD n F), .vl (msD ms), .vl (mD t), .ow false [], .un, .un, .un]) (by
      generalize potL a1 b1 = w at *
      generalize facesD n F = fd at *
      generalize msD ms = md at *
      generalize mD t = td at *
      simp), run_then f2]
    generalize potL s.1.1 s.1.2 = w at *
    generalize facesD n F = fd at *
    generalize msD ms = md at *
    generalize mD t = td at *
    generalize mD s.2.1 = rd at *
    exact run_thenR (run_ret (by simp [t2]))
end
end Lw

set_option Elab.async false
set_option linter.all false
set_option maxRecDepth 100000
set_option maxHeartbeats 4000000
namespace Lw
open PySem PySem.Spec L2 Ev
theorem repr_ok2 {k w : Nat} {d : PyData} (h : Tame k w d) (hk : k ≤ 60) (hw : w ≤ 66000) : reprF [d] = some ⟨.str d.shown, false⟩ := by
  have s := PyData.shown_le 13 (by decide) d h.lv
  have g : (13 + 2) * d.weight ≤ 15 * 66000 := Nat.mul_le_mul (by decide) (Nat.le_trans h.wt hw)
  show (if d.showable = true ∧ d.depth ≤ 60 ∧ d.shown.length ≤ most then lit (.str d.shown) else none) = _
  rw [if_pos ⟨h.sh, Nat.le_trans h.dp hk, by unfold most; omega⟩]
theorem cut_hi2 {ds : List PyData} {i : Nat} : cutD ds none (some (i : Int)) = ds.take i := by
  by_cases h : i ≤ ds.length
  · exact cut_hi h
  · unfold cutD
    have e2 : HT.sIx ds.length 0 none = 0 := rfl
    rw [HT.sIx_nat, e2]
    have : min i ds.length = ds.length := by omega
    rw [this, List.drop_zero, Nat.sub_zero, List.take_length, List.take_of_length_le (by omega)]
section
variable {n : Nat} {F : Nat → Nat → Int} {m : List Nat} {s : Nat} {ms : List (List Nat)}
theorem sm_nat {L d a : Nat} (h : a < 1000) : Sm L d (nD a) := sm_scal (decide_eq_true (by omega))
theorem sm_mD {L d : Nat} {t : List Nat} (hl : t.length ≤ L) (h : ∀ a ∈ t, a < 1000) : Sm L (d + 1) (mD t) := sm_tup (by simpa using hl) fun x hx => by
  obtain ⟨a, ha, rfl⟩ := List.mem_map.mp hx
  exact sm_nat (h a ha)
theorem sm_short {L d : Nat} : Sm L d (.str "short") := sm_scal (by decide)
theorem sm_barred {L d : Nat} : Sm L d (.str "barred") := sm_scal (by decide)
theorem sm_cons {L d : Nat} {ds : List PyData} (hl : ds.length ≤ L) (h : ∀ x ∈ ds, Sm L d x) : Sm L (d + 1) (.tuple ds) := sm_tup hl h
theorem mem2 {P : PyData → Prop} {a b : PyData} (ha : P a) (hb : P b) : ∀ x ∈ [a, b], P x := fun x hx => by
  have : x = a ∨ x = b := by simpa using hx
  rcases this with rfl | rfl
  · exact ha
  · exact hb
theorem mem3 {P : PyData → Prop} {a b c : PyData} (ha : P a) (hb : P b) (hc : P c) : ∀ x ∈ [a, b, c], P x := fun x hx => by
  have : x = a ∨ x = b ∨ x = c := by simpa using hx
  rcases this with rfl | rfl | rfl
  · exact ha
  · exact hb
  · exact hc
theorem msg_len (h : Fine n ms) (hm : m ∈ ms) : m.length ≤ 4 := by
  have := asc_len (h.up m hm) (h.ok m hm).lt
  have := h.n4
  omega
theorem sm_way (h : Fine n ms) : Sm 16 2 (wayD (exactT n F ms)) := by
  unfold exactT
  split
  · exact sm_scal rfl
  · rename_i h0
    rw [least_own]
    cases q : dfs (ownL n F ms) [] with
    | none => exact sm_scal rfl
    | some t =>
      have w := (way_fine h.toMsgs (dfs_told q) h0).toWay
      have n4 := h.n4
      have l15 := h.l15
      exact sm_tup (by simp) (mem2 (sm_mD (by have := w.tl; omega) fun a ha => by have := w.ta a ha; omega) (sm_mD (by have := w.rl; omega) fun a ha => by have := w.ra a ha; omega))
theorem bar_spec (h : Msgs n ms) {d : PyData} (q : barS F ms = some d) : ∃ i, i < ms.length ∧ fit F (ms.getD i []) = [] ∧ d = barD F (ms.getD i []) i := by
  unfold barS at q
  obtain ⟨p, hp, e⟩ := List.exists_of_findSome?_eq_some q
  obtain ⟨m, i⟩ := p
  obtain ⟨hi, hm⟩ := List.getElem?_eq_some_iff.mp (List.mem_zipIdx_iff_getElem?.mp hp)
  have e : (if fit F m = [] then some (barD F m i) else none) = some d := e
  by_cases c : fit F m = []
  · rw [if_pos c] at e
    have em : ms.getD i [] = m := by
      rw [getD_of hi]
      exact hm
    refine ⟨i, hi, by rw [em]; exact c, ?_⟩
    rw [em]
    exact (Option.some.inj e).symm
  · rw [if_neg c] at e
    cases e
theorem sm_ref (h : Fine n ms) : Sm 16 2 (refD n F ms) := by
  have n4 := h.n4
  have l15 := h.l15
  unfold refD
  cases q : barS F ms with
  | some d =>
    obtain ⟨i, hi, hf, rfl⟩ := bar_spec h.toMsgs q
    have hm : ms.getD i [] ∈ ms := by rw [getD_of hi]; exact List.getElem_mem hi
    refine sm_tup (by simp) (mem3 sm_barred (sm_nat (by omega)) (sm_mD ?_ fun a ha => ?_))
    · have := msg_len h hm
      simp only [envs, List.length_map]
      omega
    · have := envs_lt (h.ok _ hm) hf a ha
      omega
  | none =>
    simp only
    cases q2 : shoS n F ms with
    | none => exact sm_scal rfl
    | some d =>
      unfold shoS at q2
      obtain ⟨t, ht, e⟩ := List.exists_of_findSome?_eq_some q2
      by_cases c : shortB F ms t = true
      · rw [if_pos c] at e
        cases e
        obtain ⟨z1, z2⟩ := size_lt h.n1 h.n4 t ht
        exact sm_tup (by simp) (mem2 sm_short (sm_mD (by omega) fun a ha => by have := z1 a ha; omega))
      · rw [if_neg c] at e
        cases e
/-! one value looked at by all -/
theorem val_step (hf : Small n F) (h : Fine n ms) {v : PyData} (hv : Sm 17 3 v) (x0 x3 x4 x5 x6 x7 x8 x9 x10 x11 x12 x13 x14 x15 : Sl) : ∃ y12 y13, b__law_right_1 v [x0, .vl (facesD n F), .vl (msD ms), x3, x4, x5, x6, x7, x8, x9, x10, x11, x12, x13, x14, x15] = some (.ok .nx [x0, .vl (facesD n F), .vl (msD ms), x3, x4, x5, x6, x7, x8, x9, x10, .vl v, y12, y13, x14, x15]) := by
  have ov := sm_ok hv (by decide) (by decide)
  have e1 := fun e => gen_exact (F := F) hf h v e
  have e2 := fun e => gen_refusal (F := F) hf h v ov e
  have d1 := fun e => law_exact_run (F := F) h.toGood v e
  have d2 := fun e => law_refusal_run (F := F) h v ov e
  have q1 : exactB n F ms v = lawExactB n F ms v := exact_eq v
  have q2 : refB n F ms v = lrefB n F ms v := ref_eq v
  rw [← q1] at d1
  rw [← q2] at d2
  have r1 := repr_ok2 (sm_tame hv) (by decide) (by decide)
  have r2 := repr_ok (tame_two (tame_bool (exactB n F ms v)) (tame_bool (refB n F ms v))) (by decide) (by decide)
  generalize exactB n F ms v = b1 at *
  generalize refB n F ms v = b2 at *
  generalize v.shown = s1 at *
  generalize (PyData.list [.bool b1, .bool b2]).shown = s2 at *
  have es : ∀ s : Str, eqD (.str s) (.str s) = some true := fun s => by rw [eqD_str]; simp
  generalize facesD n F = fd at *
  generalize msD ms = md at *
  refine ⟨.vl (.str s1), .vl (.list [.bool b1, .bool b2]), ?_⟩
  have s0 : nameM 11 v [x0, .vl fd, .vl md, x3, x4, x5, x6, x7, x8, x9, x10, x11, x12, x13, x14, x15] = some (.ok () [x0, .vl fd, .vl md, x3, x4, x5, x6, x7, x8, x9, x10, .vl v, x12, x13, x14, x15]) := by simp
  rw [b__law_right_1, bodyM, run_bind, s0, bndR_ok, run_then (e1 := [x0, .vl fd, .vl md, x3, x4, x5, x6, x7, x8, x9, x10, .vl v, .vl (.str s1), .vl (.list [.bool b1, .bool b2]), x14, x15]) (by simp [r1, d1, d2]),
    run_then (e1 := [x0, .vl fd, .vl md, x3, x4, x5, x6, x7, x8, x9, x10, .vl v, .vl (.str s1), .vl (.list [.bool b1, .bool b2]), x14, x15]) (by simp [e1, e2, r1, r2, es]),
    run_then (e1 := [x0, .vl fd, .vl md, x3, x4, x5, x6, x7, x8, x9, x10, .vl v, .vl (.str s1), .vl (.list [.bool b1, .bool b2]), x14, x15]) (by simp [mixL, e1, e2, r2, es])]
  rfl
end
end Lw

set_option Elab.async false
set_option linter.all false
set_option maxRecDepth 100000
set_option maxHeartbeats 4000000
namespace Lw
open PySem PySem.Spec L2 Ev
section
variable {n : Nat} {F : Nat → Nat → Int} {m : List Nat} {s : Nat} {ms : List (List Nat)}
abbrev V (v : PyData) : Prop := Sm 17 3 v
abbrev shS (m : List Nat) : PyData := .tuple [.str "short", mD m]
theorem q_0 (n1 : 1 ≤ n) (n4 : n ≤ 4) (x0 x1 x2 x3 x5 x6 x7 x8 x9 x11 x12 x13 x14 x15 : Sl) : c__law_right_0 [x0, x1, x2, x3, .vl (nD n), x5, x6, x7, x8, x9, .un, x11, x12, x13, x14, x15] = some (.ok ⟨.list (((fullL n).take 6).map shS), true⟩ [x0, x1, x2, x3, .vl (nD n), x5, x6, x7, x8, x9, .un, x11, x12, x13, x14, x15]) := by
  rw [c__law_right_0, lc_t mD shS (fun m => some m) (xs := (fullL n).take 6)]
  · simp
  · have k0 := fun e => k__law_sets (n := n) n1 n4 e
    have sl : slcD none (some 6) (lmD (fullL n)) = some ⟨lmD ((fullL n).take 6), true⟩ := by
      show some (⟨.list (cutD ((fullL n).map mD) none (some ((6 : Nat) : Int))), true⟩ : RV) = _
      rw [cut_hi2, ← List.map_take]
    have it : itemsOf (lmD ((fullL n).take 6)) = some (((fullL n).take 6).map mD) := rfl
    generalize lmD ((fullL n).take 6) = z1 at *
    generalize lmD (fullL n) = z2 at *
    generalize nD n = z3 at *
    simp [seqM, slcM, partM, k0, sl, it]
  · intro m hm
    exact ⟨[x0, x1, x2, x3, .vl (nD n), x5, x6, x7, x8, x9, .vl (mD m), x11, x12, x13, x14, x15], by simp [turnM], by simp⟩
  · have := full_len n1 n4
    rw [List.length_take]
    unfold most
    omega
  · simp
theorem q_1 {a b : Int} (h : Fine n ms) (p : Pot a b) (x3 x4 x5 x6 x7 x8 x9 x10 x11 x12 x13 x15 : Sl) : ∃ (ds : List PyData) (a' b' : Int), ds.length = 3 ∧ (∀ v ∈ ds, V v) ∧ Pot a' b' ∧
    c__law_right_1 [.ow true (potL a b), .vl (facesD n F), .vl (msD ms), x3, x4, x5, x6, x7, x8, x9, x10, x11, x12, x13, .un, x15] = some (.ok ⟨.list ds, true⟩ [.ow true (potL a' b'), .vl (facesD n F), .vl (msD ms), x3, x4, x5, x6, x7, x8, x9, x10, x11, x12, x13, .un, x15]) := by
  have := lc_inv (own := [14]) (mi := rng1M (toO (pure ⟨.int 3, false⟩))) (step := turnM (nameM 14) (pure true) (callPM 0 N__law_made.length ps__law_made.length m__law_made (do let d ← valM (readV 1); let ds ← (do let d ← valM (readV 2); let ds ← (pure []); pure (d :: ds)); pure (d :: ds)))) (e := [.ow true (potL a b), .vl (facesD n F), .vl (msD ms), x3, x4, x5, x6, x7, x8, x9, x10, x11, x12, x13, .un, x15]) nD (fun s : Int × Int => [.ow true (potL s.1 s.2), .vl (facesD n F), .vl (msD ms), x3, x4, x5, x6, x7, x8, x9, x10, x11, x12, x13, .un, x15]) (fun s rem acc => Pot s.1 s.2 ∧ acc.length + rem.length = 3 ∧ ∀ v ∈ acc, V v) (List.range 3) (a, b) (by
      have : rngD [.int 3] = some ((List.range 3).map nD) := rngD_nat (n := 3) (by decide)
      generalize (List.range 3).map nD = w at *
      generalize potL a b = q at *
      generalize facesD n F = fd at *
      generalize msD ms = md at *
      simp [rng1M, this]) ⟨p, by simp, by intro v hv; cases hv⟩ (fun x rem s acc ⟨hp, h1, h2⟩ => by
      obtain ⟨v, a', b', q1, q2, q3⟩ := made_run (F := F) h hp
      have r := runPM_eq (i := 0) (n := N__law_made.length) (np := ps__law_made.length) (ds := [facesD n F, msD ms]) (b := true) (e := [.ow true (potL s.1 s.2), .vl (facesD n F), .vl (msD ms), x3, x4, x5, x6, x7, x8, x9, x10, x11, x12, x13, .vl (nD x), x15]) rfl rfl rfl q3
      have r : runPM 0 N__law_made.length ps__law_made.length m__law_made [facesD n F, msD ms] [.ow true (potL s.1 s.2), .vl (facesD n F), .vl (msD ms), x3, x4, x5, x6, x7, x8, x9, x10, x11, x12, x13, .vl (nD x), x15] = some (.ok ⟨v, false⟩ [.ow true (potL a' b'), .vl (facesD n F), .vl (msD ms), x3, x4, x5, x6, x7, x8, x9, x10, x11, x12, x13, .vl (nD x), x15]) := r
      refine ⟨some v, (a', b'), [.ow true (potL a' b'), .vl (facesD n F), .vl (msD ms), x3, x4, x5, x6, x7, x8, x9, x10, x11, x12, x13, .vl (nD x), x15], ?_, rfl, q2, by simp at h1 ⊢; omega, fun w hw => ?_⟩
      · generalize potL s.1 s.2 = q at *
        generalize potL a' b' = q' at *
        generalize facesD n F = fd at *
        generalize msD ms = md at *
        simp [turnM, r]
      · rcases List.mem_append.mp hw with hw | hw
        · exact h2 w hw
        · have : w = v := by simpa using hw
          rw [this]
          exact sm_up (by decide) q1 (by decide)) (by simp) (fun s => rfl)
  obtain ⟨s, ds, ⟨hp, h1, h2⟩, hr⟩ := this
  exact ⟨ds, s.1, s.2, by simpa using h1, h2, hp, hr⟩
theorem q_2 {a b : Int} {k : Nat} {wd : PyData} (k1 : 1 ≤ k) (k2 : k ≤ 900) (hk : maxF [nD n, nD ms.length] = some ⟨nD k, false⟩) (hw : Sm 16 2 wd) (p : Pot a b) (x1 x3 x5 x6 x7 x9 x10 x11 x12 x13 x15 : Sl) : ∃ (ds : List PyData) (a' b' : Int), ds.length = 8 ∧ (∀ v ∈ ds, V v) ∧ Pot a' b' ∧
    c__law_right_2 [.ow true (potL a b), x1, .vl (msD ms), x3, .vl (nD n), x5, x6, x7, .vl wd, x9, x10, x11, x12, x13, .un, x15] = some (.ok ⟨.list ds, true⟩ [.ow true (potL a' b'), x1, .vl (msD ms), x3, .vl (nD n), x5, x6, x7, .vl wd, x9, x10, x11, x12, x13, .un, x15]) := by
  have l1 : lenF [msD ms] = some ⟨nD ms.length, false⟩ := by simp [lenF]
  have := lc_inv (own := [14]) (mi := rng1M (toO (pure ⟨.int 8, false⟩))) (step := turnM (nameM 14) (pure true) (callPM 0 N__law_bent.length ps__law_bent.length (m__law_bent 8) (do let d ← valM (readV 8); let ds ← (do let d ← valM (op2L maxF (readO 4) (toO (op1L lenF (readO 2)))); let ds ← (pure []); pure (d :: ds)); pure (d :: ds)))) (e := [.ow true (potL a b), x1, .vl (msD ms), x3, .vl (nD n), x5, x6, x7, .vl wd, x9, x10, x11, x12, x13, .un, x15]) nD (fun s : Int × Int => [.ow true (potL s.1 s.2), x1, .vl (msD ms), x3, .vl (nD n), x5, x6, x7, .vl wd, x9, x10, x11, x12, x13, .un, x15]) (fun s rem acc => Pot s.1 s.2 ∧ acc.length + rem.length = 8 ∧ ∀ v ∈ acc, V v) (List.range 8) (a, b) (by
      have : rngD [.int 8] = some ((List.range 8).map nD) := rngD_nat (n := 8) (by decide)
      generalize (List.range 8).map nD = w at *
      generalize potL a b = q at *
      generalize msD ms = md at *
      simp [rng1M, this]) ⟨p, by simp, by intro v hv; cases hv⟩ (fun x rem s acc ⟨hp, h1, h2⟩ => by
      obtain ⟨v, a', b', q1, q2, q3⟩ := bent_run (L := 16) (k := k) (by decide) (by decide) k1 k2 8 2 wd s.1 s.2 (by decide) (by decide) hw hp
      have r := runPM_eq (i := 0) (n := N__law_bent.length) (np := ps__law_bent.length) (ds := [wd, nD k]) (b := true) (e := [.ow true (potL s.1 s.2), x1, .vl (msD ms), x3, .vl (nD n), x5, x6, x7, .vl wd, x9, x10, x11, x12, x13, .vl (nD x), x15]) rfl rfl rfl q3
      have r : runPM 0 N__law_bent.length ps__law_bent.length (m__law_bent 8) [wd, nD k] [.ow true (potL s.1 s.2), x1, .vl (msD ms), x3, .vl (nD n), x5, x6, x7, .vl wd, x9, x10, x11, x12, x13, .vl (nD x), x15] = some (.ok ⟨v, false⟩ [.ow true (potL a' b'), x1, .vl (msD ms), x3, .vl (nD n), x5, x6, x7, .vl wd, x9, x10, x11, x12, x13, .vl (nD x), x15]) := r
      refine ⟨some v, (a', b'), [.ow true (potL a' b'), x1, .vl (msD ms), x3, .vl (nD n), x5, x6, x7, .vl wd, x9, x10, x11, x12, x13, .vl (nD x), x15], ?_, rfl, q2, by simp at h1 ⊢; omega, fun w hw => ?_⟩
      · generalize potL s.1 s.2 = q at *
        generalize potL a' b' = q' at *
        generalize nD ms.length = z1 at *
        generalize nD n = z2 at *
        generalize nD k = z3 at *
        generalize msD ms = md at *
        generalize m__law_bent 8 = bb at *
        simp [turnM, l1, hk, r]
      · rcases List.mem_append.mp hw with hw | hw
        · exact h2 w hw
        · have : w = v := by simpa using hw
          rw [this]
          exact q1) (by rw [List.length_range]; decide) (fun s => rfl)
  obtain ⟨s, ds, ⟨hp, h1, h2⟩, hr⟩ := this
  exact ⟨ds, s.1, s.2, by simpa using h1, h2, hp, hr⟩
theorem q_3 {a b : Int} (hm : Msg n m) (h0 : m ≠ []) (h4 : n ≤ 4) (hl : m.length ≤ 4) (p : Pot a b) (x1 x2 x3 x4 x5 x6 x7 x8 x9 x11 x12 x13 x14 : Sl) : ∃ (t : List Nat) (a' b' : Int), t.length = m.length ∧ (∀ x ∈ t, x < 1000) ∧ Pot a' b' ∧
    c__law_right_3 [.ow true (potL a b), x1, x2, x3, x4, x5, x6, x7, x8, x9, .vl (mD m), x11, x12, x13, x14, .un] = some (.ok ⟨lnD t, true⟩ [.ow true (potL a' b'), x1, x2, x3, x4, x5, x6, x7, x8, x9, .vl (mD m), x11, x12, x13, x14, .un]) := by
  have := lc_inv (own := [15]) (mi := seqM (readV 10)) (step := turnM (nameM 15) (pure true) (callPM 0 N__law_pick.length ps__law_pick.length m__law_pick (do let d ← valM (readV 10); let ds ← (pure []); pure (d :: ds)))) (e := [.ow true (potL a b), x1, x2, x3, x4, x5, x6, x7, x8, x9, .vl (mD m), x11, x12, x13, x14, .un]) nD (fun s : Int × Int => [.ow true (potL s.1 s.2), x1, x2, x3, x4, x5, x6, x7, x8, x9, .vl (mD m), x11, x12, x13, x14, .un]) (fun s rem acc => Pot s.1 s.2 ∧ ∃ t : List Nat, acc = t.map nD ∧ t.length + rem.length = m.length ∧ ∀ x ∈ t, x < 1000) m (a, b) (by
      have it : itemsOf (mD m) = some (m.map nD) := rfl
      generalize potL a b = q at *
      generalize mD m = md at *
      simp [seqM, it]) ⟨p, [], rfl, by simp, by intro v hv; cases hv⟩ (fun x rem s acc ⟨hp, t, h1, h2, h3⟩ => by
      obtain ⟨v, a', b', hv, hp', hr'⟩ := k_pickT (i := 0) (c := true) (e := [.ow true (potL s.1 s.2), x1, x2, x3, x4, x5, x6, x7, x8, x9, .vl (mD m), x11, x12, x13, x14, .vl (nD x)]) m hp h0 (by omega) rfl
      have hr' : runPM 0 N__law_pick.length ps__law_pick.length m__law_pick [mD m] [.ow true (potL s.1 s.2), x1, x2, x3, x4, x5, x6, x7, x8, x9, .vl (mD m), x11, x12, x13, x14, .vl (nD x)] = some (.ok ⟨nD v, false⟩ [.ow true (potL a' b'), x1, x2, x3, x4, x5, x6, x7, x8, x9, .vl (mD m), x11, x12, x13, x14, .vl (nD x)]) := hr'
      refine ⟨some (nD v), (a', b'), [.ow true (potL a' b'), x1, x2, x3, x4, x5, x6, x7, x8, x9, .vl (mD m), x11, x12, x13, x14, .vl (nD x)], ?_, rfl, hp', t ++ [v], by simp [h1], by simp at h2 ⊢; omega, fun y hy => ?_⟩
      · generalize potL s.1 s.2 = q at *
        generalize potL a' b' = q' at *
        generalize mD m = md at *
        simp [turnM, hr']
      · rcases List.mem_append.mp hy with hy | hy
        · exact h3 y hy
        · have : y = v := by simpa using hy
          have := hm.lt v hv
          omega) (by unfold most; omega) (fun s => rfl)
  obtain ⟨s, ds, ⟨hp, t, h1, h2, h3⟩, hr⟩ := this
  subst h1
  exact ⟨t, s.1, s.2, by simpa using h2, h3, hp, hr⟩
end
end Lw

set_option Elab.async false
set_option linter.all false
set_option maxRecDepth 100000
set_option maxHeartbeats 4000000
namespace Lw
open PySem PySem.Spec L2 Ev
section
variable {n : Nat} {F : Nat → Nat → Int} {m : List Nat} {s : Nat} {ms : List (List Nat)}
/-- the first values -/
def firsts (n : Nat) (wv rv : PyData) : List PyData := [wv, rv, .none, .int 0, .tuple [], .str "short", .tuple [.str "short", .tuple []], .tuple [.str "short", mD (List.range n)], .tuple [.str "barred"], .list [wv]]
theorem firsts_V (n4 : n ≤ 4) {wv rv : PyData} (h1 : Sm 16 2 wv) (h2 : Sm 16 2 rv) : ∀ v ∈ firsts n wv rv, V v := fun v hv => by
  have hv : v = wv ∨ v = rv ∨ v = .none ∨ v = .int 0 ∨ v = .tuple [] ∨ v = .str "short" ∨ v = .tuple [.str "short", .tuple []] ∨ v = .tuple [.str "short", mD (List.range n)] ∨ v = .tuple [.str "barred"] ∨ v = .list [wv] := by simpa [firsts] using hv
  have t0 : ∀ {d : Nat}, Sm 17 (d + 1) (.tuple []) := sm_tup (by simp) fun x hx => by cases hx
  rcases hv with rfl | rfl | rfl | rfl | rfl | rfl | rfl | rfl | rfl | rfl
  · exact sm_up (by decide) h1 (by decide)
  · exact sm_up (by decide) h2 (by decide)
  · exact sm_scal rfl
  · exact sm_scal (by decide)
  · exact t0
  · exact sm_short
  · exact sm_tup (by simp) (mem2 sm_short t0)
  · exact sm_tup (by simp) (mem2 sm_short (sm_mD (by simp; omega) fun a ha => by have := List.mem_range.mp ha; omega))
  · exact sm_tup (by simp) fun x hx => by
      have : x = .str "barred" := by simpa using hx
      rw [this]
      exact sm_barred
  · exact sm_lst (by simp) fun x hx => by
      have : x = wv := by simpa using hx
      rw [this]
      exact sm_up (by decide) h1 (by decide)
/-- the barred ones of own making -/
theorem bar_step (h : Fine n ms) {a b : Int} (p : Pot a b) {q : List Nat × Nat} (hq : q.1 ∈ ms) (hi : q.2 < 100) {ds : List PyData} (hd : ∀ v ∈ ds, V v) (hl : ds.length ≤ 100) (x3 x4 x5 x6 x8 x9 x10 x11 x12 x13 x14 : Sl) (fd md : PyData) : ∃ (ds' : List PyData) (a' b' : Int), Pot a' b' ∧ (∀ v ∈ ds', V v) ∧ ds'.length = ds.length + 1 ∧
    b__law_right_0 (.tuple [nD q.2, mD q.1]) [.ow true (potL a b), .vl fd, .vl md, x3, x4, x5, x6, .ow false ds, x8, x9, x10, x11, x12, x13, x14, .un] = some (.ok .nx [.ow true (potL a' b'), .vl fd, .vl md, x3, x4, x5, x6, .ow false ds', x8, .vl (nD q.2), .vl (mD q.1), x11, x12, x13, x14, .un]) := by
  have n4 := h.n4
  obtain ⟨t, a', b', tl, ta, p', r⟩ := q_3 (h.ok _ hq) (h.ne _ hq) n4 (msg_len h hq) p (.vl fd) (.vl md) x3 x4 x5 x6 (.ow false ds) x8 (.vl (nD q.2)) x11 x12 x13 x14
  have t1 : tupleF [lnD t] = some ⟨mD t, false⟩ := rfl
  have g : ds.length < most := by unfold most; omega
  refine ⟨ds ++ [.tuple [.str "barred", nD q.2, mD t]], a', b', p', fun v hv => ?_, by simp, ?_⟩
  · rcases List.mem_append.mp hv with hv | hv
    · exact hd v hv
    · have : v = .tuple [.str "barred", nD q.2, mD t] := by simpa using hv
      rw [this]
      exact sm_tup (by simp) (mem3 sm_barred (sm_nat (by omega)) (sm_mD (by have := msg_len h hq; omega) ta))
  · have s0 : tupT 2 (consM (nameM 9) (consM (nameM 10) (nilM))) (.tuple [nD q.2, mD q.1]) [.ow true (potL a b), .vl fd, .vl md, x3, x4, x5, x6, .ow false ds, x8, x9, x10, x11, x12, x13, x14, .un] = some (.ok () [.ow true (potL a b), .vl fd, .vl md, x3, x4, x5, x6, .ow false ds, x8, .vl (nD q.2), .vl (mD q.1), x11, x12, x13, x14, .un]) := by
      generalize potL a b = w at *
      simp
    rw [b__law_right_0, bodyM, run_bind, s0, bndR_ok]
    generalize potL a b = w at *
    generalize potL a' b' = w2 at *
    generalize mD q.1 = mq at *
    generalize mD t = td at *
    generalize lnD t = tl' at *
    generalize nD q.2 = qd at *
    exact (run_then (e1 := [.ow true w2, .vl fd, .vl md, x3, x4, x5, x6, .ow false (ds ++ [.tuple [.str "barred", qd, td]]), x8, .vl qd, .vl mq, x11, x12, x13, x14, .un]) (by simp [appM, r, t1, g])).trans rfl
theorem right_run (hf : Small n F) (h : Fine n ms) {a b : Int} (p : Pot a b) : ∃ (a' b' : Int), Pot a' b' ∧ RetP m__law_right [.ow true (potL a b), .vl (facesD n F), .vl (msD ms), .un, .un, .un, .un, .un, .un, .un, .un, .un, .un, .un, .un, .un] ⟨.bool true, false⟩ (potL a' b') := by
  have n1 := h.n1
  have n4 := h.n4
  have l15 := h.l15
  have l0 : lenF [facesD n F] = some ⟨nD n, false⟩ := by simp [lenF]
  have tm := repr_ok (tame_two (tame_faces hf h.n4) (tame_msgs h.toGood)) (by decide) (by decide)
  have kx := k_exact_way hf h
  have kr := k_refusal hf h
  have vw := sm_way (F := F) h
  have vr := sm_ref (F := F) h
  have tr : trgM (readO 4) = trgM (readO 4) := rfl
  generalize (PyData.list [facesD n F, msD ms]).shown = s1 at *
  generalize wayD (exactT n F ms) = wv at *
  generalize refD n F ms = rv at *
  have hk : ∃ k : Nat, 1 ≤ k ∧ k ≤ 900 ∧ maxF [nD n, nD ms.length] = some ⟨nD k, false⟩ := by
    have e : maxF [nD n, nD ms.length] = some ⟨.int (if (ms.length : Int) > (n : Int) then (ms.length : Int) else (n : Int)), false⟩ := rfl
    by_cases c : (ms.length : Int) > (n : Int)
    · exact ⟨ms.length, by omega, by omega, by rw [e, if_pos c]⟩
    · exact ⟨n, by omega, by omega, by rw [e, if_neg c]⟩
  obtain ⟨k, k1, k2, hk⟩ := hk
  -- names of the first row
  have s1' : bindM (tupM (do let d ← valM (op1L reprF (toO (lstM (do let d ← valM (readV 1); let ds ← (do let d ← valM (readV 2); let ds ← (pure []); pure (d :: ds)); pure (d :: ds))))); let ds ← (do let d ← valM (op1L lenF (readO 1)); let ds ← (pure []); pure (d :: ds)); pure (d :: ds))) (tupT 2 (consM (nameM 3) (consM (nameM 4) (nilM)))) [.ow true (potL a b), .vl (facesD n F), .vl (msD ms), .un, .un, .un, .un, .un, .un, .un, .un, .un, .un, .un, .un, .un] = some (.ok .nx [.ow true (potL a b), .vl (facesD n F), .vl (msD ms), .vl (.str s1), .vl (nD n), .un, .un, .un, .un, .un, .un, .un, .un, .un, .un, .un]) := by
    generalize potL a b = q at *
    generalize nD n = z at *
    generalize facesD n F = fd at *
    generalize msD ms = md at *
    simp [tm, l0]
  have s2' : parM 5 6 (frzM (callM N_exact_way.length ps_exact_way.length m_exact_way (do let d ← valM (readV 1); let ds ← (do let d ← valM (readV 2); let ds ← (pure []); pure (d :: ds)); pure (d :: ds)))) (frzM (callM N_refusal.length ps_refusal.length m_refusal (do let d ← valM (readV 1); let ds ← (do let d ← valM (readV 2); let ds ← (pure []); pure (d :: ds)); pure (d :: ds)))) [.ow true (potL a b), .vl (facesD n F), .vl (msD ms), .vl (.str s1), .vl (nD n), .un, .un, .un, .un, .un, .un, .un, .un, .un, .un, .un] = some (.ok .nx [.ow true (potL a b), .vl (facesD n F), .vl (msD ms), .vl (.str s1), .vl (nD n), .vl wv, .vl rv, .un, .un, .un, .un, .un, .un, .un, .un, .un]) := by
    generalize potL a b = q at *
    generalize nD n = z at *
    generalize facesD n F = fd at *
    generalize msD ms = md at *
    simp [kx, kr]
  have r4 : trgM (readO 4) [.ow true (potL a b), .vl (facesD n F), .vl (msD ms), .vl (.str s1), .vl (nD n), .vl wv, .vl rv, .un, .un, .un, .un, .un, .un, .un, .un, .un] = some (.ok ⟨mD (List.range n), false⟩ [.ow true (potL a b), .vl (facesD n F), .vl (msD ms), .vl (.str s1), .vl (nD n), .vl wv, .vl rv, .un, .un, .un, .un, .un, .un, .un, .un, .un]) := by
    generalize potL a b = q at *
    generalize facesD n F = fd at *
    generalize msD ms = md at *
    simp [trgM, rng1M, rngD_nat (show n ≤ 100 by omega)]
  have s3' : setM 7 (lstM (do let d ← valM (readV 5); let ds ← (do let d ← valM (readV 6); let ds ← (do let d ← valM (pure ⟨.none, false⟩); let ds ← (do let d ← valM (pure ⟨.int 0, false⟩); let ds ← (do let d ← valM (tupM (pure [])); let ds ← (do let d ← valM (pure ⟨.str "short", false⟩); let ds ← (do let d ← valM (tupM (do let d ← valM (pure ⟨.str "short", false⟩); let ds ← (do let d ← valM (tupM (pure [])); let ds ← (pure []); pure (d :: ds)); pure (d :: ds))); let ds ← (do let d ← valM (tupM (do let d ← valM (pure ⟨.str "short", false⟩); let ds ← (do let d ← valM (trgM (readO 4)); let ds ← (pure []); pure (d :: ds)); pure (d :: ds))); let ds ← (do let d ← valM (tupM (do let d ← valM (pure ⟨.str "barred", false⟩); let ds ← (pure []); pure (d :: ds))); let ds ← (do let d ← valM (lstM (do let d ← valM (readV 5); let ds ← (pure []); pure (d :: ds))); let ds ← (pure []); pure (d :: ds)); pure (d :: ds)); pure (d :: ds)); pure (d :: ds)); pure (d :: ds)); pure (d :: ds)); pure (d :: ds)); pure (d :: ds)); pure (d :: ds)); pure (d :: ds))) [.ow true (potL a b), .vl (facesD n F), .vl (msD ms), .vl (.str s1), .vl (nD n), .vl wv, .vl rv, .un, .un, .un, .un, .un, .un, .un, .un, .un] = some (.ok .nx [.ow true (potL a b), .vl (facesD n F), .vl (msD ms), .vl (.str s1), .vl (nD n), .vl wv, .vl rv, .ow false (firsts n wv rv), .un, .un, .un, .un, .un, .un, .un, .un]) := by
    have m10 : 10 ≤ most := by decide
    unfold firsts
    generalize mD (List.range n) = mr at *
    generalize trgM (readO 4) = tt at *
    generalize potL a b = q at *
    generalize nD n = z at *
    generalize facesD n F = fd at *
    generalize msD ms = md at *
    simp [r4, m10]
  have V1 := firsts_V n4 vw vr
  have L1 : (firsts n wv rv).length = 10 := rfl
  generalize firsts n wv rv = d1 at *
  -- more
  have c0 := q_0 n1 n4 (.ow true (potL a b)) (.vl (facesD n F)) (.vl (msD ms)) (.vl (.str s1)) (.vl wv) (.vl rv) (.ow false d1) .un .un .un .un .un .un .un
  obtain ⟨d2, a2, b2, L2', V2, p2, c1⟩ := q_1 (F := F) h p (.vl (.str s1)) (.vl (nD n)) (.vl wv) (.vl rv) (.ow false d1) .un .un .un .un .un .un .un
  have L3 : (((fullL n).take 6).map shS).length ≤ 6 := by rw [List.length_map, List.length_take]; omega
  have V3 : ∀ v ∈ ((fullL n).take 6).map shS, V v := fun v hv => by
    obtain ⟨m, hm, rfl⟩ := List.mem_map.mp hv
    obtain ⟨g1, g2⟩ := full_lt n1 n4 m (List.mem_of_mem_take hm)
    exact sm_tup (by simp) (mem2 sm_short (sm_mD (by omega) fun a ha => by have := g1 a ha; omega))
  generalize ((fullL n).take 6).map shS = d3 at *
  have s4' : setM 7 (op2 addD (toO (op2 addD (readO 7) (toO (c__law_right_0)))) (toO (c__law_right_1))) [.ow true (potL a b), .vl (facesD n F), .vl (msD ms), .vl (.str s1), .vl (nD n), .vl wv, .vl rv, .ow false d1, .un, .un, .un, .un, .un, .un, .un, .un] = some (.ok .nx [.ow true (potL a2 b2), .vl (facesD n F), .vl (msD ms), .vl (.str s1), .vl (nD n), .vl wv, .vl rv, .ow false (d1 ++ d3 ++ d2), .un, .un, .un, .un, .un, .un, .un, .un]) := by
    have ad1 : addD (.list d1) (.list d3) = some ⟨.list (d1 ++ d3), true⟩ := by
      show (if d1.length + d3.length ≤ most then some (⟨.list (d1 ++ d3), true⟩ : RV) else none) = _
      rw [if_pos (by unfold most; omega)]
    have ad2 : addD (.list (d1 ++ d3)) (.list d2) = some ⟨.list (d1 ++ d3 ++ d2), true⟩ := by
      show (if (d1 ++ d3).length + d2.length ≤ most then some (⟨.list (d1 ++ d3 ++ d2), true⟩ : RV) else none) = _
      rw [if_pos (by rw [List.length_append]; unfold most; omega)]
    generalize d1 ++ d3 ++ d2 = dd at *
    generalize d1 ++ d3 = dd1 at *
    generalize potL a b = q at *
    generalize potL a2 b2 = q2 at *
    generalize nD n = z at *
    generalize facesD n F = fd at *
    generalize msD ms = md at *
    simp [c0, c1, ad1, ad2]
  have V4 : ∀ v ∈ d1 ++ d3 ++ d2, V v := fun v hv => by
    rcases List.mem_append.mp hv with hv | hv
    · rcases List.mem_append.mp hv with hv | hv
      · exact V1 v hv
      · exact V3 v hv
    · exact V2 v hv
  have L4 : (d1 ++ d3 ++ d2).length ≤ 20 := by rw [List.length_append, List.length_append]; omega
  generalize d1 ++ d3 ++ d2 = d4 at *
  -- the one to bend
  have s5' : ∃ ow : PyData, Sm 16 2 ow ∧ setM 8 (frzM (iteM (asB (op2 (cmpD .isnotN) (readO 5) (toO (pure ⟨.none, false⟩)))) (readV 5) (readV 6))) [.ow true (potL a2 b2), .vl (facesD n F), .vl (msD ms), .vl (.str s1), .vl (nD n), .vl wv, .vl rv, .ow false d4, .un, .un, .un, .un, .un, .un, .un, .un] = some (.ok .nx [.ow true (potL a2 b2), .vl (facesD n F), .vl (msD ms), .vl (.str s1), .vl (nD n), .vl wv, .vl rv, .ow false d4, .vl ow, .un, .un, .un, .un, .un, .un, .un]) := by
    clear s1' s2' s3' s4' r4 c0 c1 kx kr
    generalize potL a2 b2 = q2 at *
    generalize nD n = z at *
    generalize facesD n F = fd at *
    generalize msD ms = md at *
    by_cases c : wv = .none
    · subst c
      exact ⟨rv, vr, by simp [isND]⟩
    · have : isND wv .none = some false := by cases wv <;> first | rfl | exact absurd rfl c
      exact ⟨wv, vw, by simp [this]⟩
  obtain ⟨ow, vo, s5'⟩ := s5'
  obtain ⟨d5, a5, b5, L5, V5, p5, c2⟩ := q_2 (n := n) k1 k2 hk vo p2 (.vl (facesD n F)) (.vl (.str s1)) (.vl wv) (.vl rv) (.ow false d4) .un .un .un .un .un .un
  have s6' : setM 7 (op2 addD (readO 7) (toO (c__law_right_2))) [.ow true (potL a2 b2), .vl (facesD n F), .vl (msD ms), .vl (.str s1), .vl (nD n), .vl wv, .vl rv, .ow false d4, .vl ow, .un, .un, .un, .un, .un, .un, .un] = some (.ok .nx [.ow true (potL a5 b5), .vl (facesD n F), .vl (msD ms), .vl (.str s1), .vl (nD n), .vl wv, .vl rv, .ow false (d4 ++ d5), .vl ow, .un, .un, .un, .un, .un, .un, .un]) := by
    have ad1 : addD (.list d4) (.list d5) = some ⟨.list (d4 ++ d5), true⟩ := by
      show (if d4.length + d5.length ≤ most then some (⟨.list (d4 ++ d5), true⟩ : RV) else none) = _
      rw [if_pos (by unfold most; omega)]
    generalize d4 ++ d5 = dd at *
    generalize potL a2 b2 = q at *
    generalize potL a5 b5 = q2 at *
    generalize nD n = z at *
    generalize facesD n F = fd at *
    generalize msD ms = md at *
    simp [c2, ad1]
  have V6 : ∀ v ∈ d4 ++ d5, V v := fun v hv => by
    rcases List.mem_append.mp hv with hv | hv
    · exact V4 v hv
    · exact V5 v hv
  have L6 : (d4 ++ d5).length ≤ 30 := by rw [List.length_append]; omega
  generalize d4 ++ d5 = d6 at *
  -- barred ones
  have lp := for_inv (step := b__law_right_0) (fun q : List Nat × Nat => PyData.tuple [nD q.2, mD q.1]) (fun s : (Int × Int) × List PyData × Sl × Sl => [.ow true (potL s.1.1 s.1.2), .vl (facesD n F), .vl (msD ms), .vl (.str s1), .vl (nD n), .vl wv, .vl rv, .ow false s.2.1, .vl ow, s.2.2.1, s.2.2.2, .un, .un, .un, .un, .un]) (fun s rem => Pot s.1.1 s.1.2 ∧ (∀ v ∈ s.2.1, V v) ∧ s.2.1.length + rem.length ≤ 40 ∧ ∀ q ∈ rem, q.1 ∈ ms ∧ q.2 < 100) (fun q rem s ⟨hp, h1, h2, h3⟩ => by
    obtain ⟨hq1, hq2⟩ := h3 q List.mem_cons_self
    simp only [List.length_cons] at h2
    obtain ⟨ds', a', b', z1, z2, z3, z4⟩ := bar_step h hp hq1 hq2 h1 (by omega) (.vl (.str s1)) (.vl (nD n)) (.vl wv) (.vl rv) (.vl ow) s.2.2.1 s.2.2.2 .un .un .un .un (facesD n F) (msD ms)
    exact ⟨((a', b'), ds', .vl (nD q.2), .vl (mD q.1)), z4, z1, z2, by show ds'.length + rem.length ≤ 40; omega, fun x hx => h3 x (List.mem_cons_of_mem _ hx)⟩) (ms.take 4).zipIdx ((a5, b5), d6, .un, .un) ⟨p5, V6, by
      have : (ms.take 4).zipIdx.length ≤ 4 := by rw [List.length_zipIdx, List.length_take]; omega
      show d6.length + (ms.take 4).zipIdx.length ≤ 40
      omega, fun q hq => by
      obtain ⟨x, i⟩ := q
      refine ⟨List.mem_of_mem_take (List.fst_mem_of_mem_zipIdx hq), ?_⟩
      have := List.snd_lt_of_mem_zipIdx hq
      rw [List.length_take] at this
      show i < 100
      omega⟩
  obtain ⟨s, f7, p7, V7, L7, _⟩ := lp
  have m7 : enumM (slcM (readO 2) (partM none) (partM (some (toO (pure ⟨.int 4, false⟩))))) [.ow true (potL a5 b5), .vl (facesD n F), .vl (msD ms), .vl (.str s1), .vl (nD n), .vl wv, .vl rv, .ow false d6, .vl ow, .un, .un, .un, .un, .un, .un, .un] = some (.ok ((ms.take 4).zipIdx.map fun q => PyData.tuple [nD q.2, mD q.1]) [.ow true (potL a5 b5), .vl (facesD n F), .vl (msD ms), .vl (.str s1), .vl (nD n), .vl wv, .vl rv, .ow false d6, .vl ow, .un, .un, .un, .un, .un, .un, .un]) := by
    have sl : slcD none (some 4) (msD ms) = some ⟨msD (ms.take 4), false⟩ := by
      show lit (.tuple (cutD (ms.map mD) none (some ((4 : Nat) : Int)))) = _
      rw [cut_hi2, ← List.map_take]
    have it : itemsOf (msD (ms.take 4)) = some ((ms.take 4).map mD) := rfl
    have me := mapIdx_en mD (ms.take 4)
    generalize (ms.take 4).zipIdx.map (fun q => PyData.tuple [nD q.2, mD q.1]) = z1 at *
    generalize (ms.take 4).map mD = z2 at *
    generalize msD (ms.take 4) = z3 at *
    generalize msD ms = md at *
    generalize facesD n F = fd at *
    generalize potL a5 b5 = q at *
    generalize nD n = z at *
    simp [enumM, seqM, slcM, partM, sl, it, me]
  have s7' := run_for m7 f7
  -- all looked at
  have lp2 := for_inv (step := b__law_right_1) (fun d : PyData => d) (fun y : Sl × Sl × Sl => [.ow true (potL s.1.1 s.1.2), .vl (facesD n F), .vl (msD ms), .vl (.str s1), .vl (nD n), .vl wv, .vl rv, .vl (.list s.2.1), .vl ow, s.2.2.1, s.2.2.2, y.1, y.2.1, y.2.2, .un, .un]) (fun y rem => ∀ v ∈ rem, V v) (fun v rem y hv => by
    obtain ⟨y12, y13, z⟩ := val_step hf h (hv v List.mem_cons_self) (.ow true (potL s.1.1 s.1.2)) (.vl (.str s1)) (.vl (nD n)) (.vl wv) (.vl rv) (.vl (.list s.2.1)) (.vl ow) s.2.2.1 s.2.2.2 y.1 y.2.1 y.2.2 .un .un
    exact ⟨(.vl v, y12, y13), z, fun u hu => hv u (List.mem_cons_of_mem _ hu)⟩) s.2.1 (.un, .un, .un) V7
  obtain ⟨y, f8, _⟩ := lp2
  have m8 : seqM (readV 7) [.ow true (potL s.1.1 s.1.2), .vl (facesD n F), .vl (msD ms), .vl (.str s1), .vl (nD n), .vl wv, .vl rv, .ow false s.2.1, .vl ow, s.2.2.1, s.2.2.2, .un, .un, .un, .un, .un] = some (.ok (s.2.1.map fun d => d) [.ow true (potL s.1.1 s.1.2), .vl (facesD n F), .vl (msD ms), .vl (.str s1), .vl (nD n), .vl wv, .vl rv, .vl (.list s.2.1), .vl ow, s.2.2.1, s.2.2.2, .un, .un, .un, .un, .un]) := by
    generalize potL s.1.1 s.1.2 = q at *
    generalize msD ms = md at *
    generalize facesD n F = fd at *
    generalize nD n = z at *
    simp [seqM, itemsOf]
  have s8' := run_for m8 f8
  have es : ∀ s : Str, eqD (.str s) (.str s) = some true := fun s => by rw [eqD_str]; simp
  refine ⟨s.1.1, s.1.2, p7, [.ow true (potL s.1.1 s.1.2), .vl (facesD n F), .vl (msD ms), .vl (.str s1), .vl (nD n), .vl wv, .vl rv, .vl (.list s.2.1), .vl ow, s.2.2.1, s.2.2.2, y.1, y.2.1, y.2.2, .un, .un], ?_, rfl⟩
  rw [m__law_right, run_then s1', run_then s2', run_then s3', run_then s4', run_then s5', run_then s6', run_then s7', run_then s8']
  generalize potL s.1.1 s.1.2 = q at *
  generalize msD ms = md at *
  generalize facesD n F = fd at *
  generalize nD n = z at *
  exact run_thenR (run_ret (by simp [tm, es]))
end
end Lw

set_option Elab.async false
set_option linter.all false
set_option maxRecDepth 100000
set_option maxHeartbeats 4000000
namespace Lw
open PySem PySem.Spec L2 Ev
theorem k_right {n : Nat} {F : Nat → Nat → Int} {ms : List (List Nat)} (hf : Small n F) (h : Fine n ms) {a b : Int} {i : Nat} {c : Bool} {e : En} (p : Pot a b) (hi : e[i]? = some (.ow c (potL a b))) : ∃ (a' b' : Int), Pot a' b' ∧ runPM i N__law_right.length ps__law_right.length m__law_right [facesD n F, msD ms] e = some (.ok ⟨.bool true, false⟩ (e.set i (.ow c (potL a' b')))) := by
  obtain ⟨a', b', h2, h3⟩ := right_run hf h p
  exact ⟨a', b', h2, runPM_eq hi rfl rfl h3⟩
theorem law_step {a b : Int} {z t : PyData} (p : Pot a b) (x2 x3 x4 : Sl) : ∃ (a' b' : Int) (y3 y4 : Sl), Pot a' b' ∧ b_law_0 t [.vl z, .ow false (potL a b), x2, x3, x4] = some (.ok .nx [.vl z, .ow false (potL a' b'), .vl t, y3, y4]) := by
  obtain ⟨v, a1, b1, hv, p1, r1⟩ := k_draw (i := 1) (c := false) (k := 4) (e := [.vl z, .ow false (potL a b), .vl t, x3, x4]) p (by decide) (by decide) rfl
  have r1 : runPM 1 N__law_draw.length ps__law_draw.length m__law_draw [.int 4] [.vl z, .ow false (potL a b), .vl t, x3, x4] = some (.ok ⟨nD v, false⟩ [.vl z, .ow false (potL a1 b1), .vl t, x3, x4]) := r1
  have ad : addD (.int 1) (nD v) = some ⟨nD (v + 1), false⟩ := by
    show some (⟨.int (1 + (v : Int)), false⟩ : RV) = some ⟨.int (((v + 1 : Nat)) : Int), false⟩
    rw [show (1 + (v : Int)) = ((v + 1 : Nat) : Int) by omega]
  have n1 : 1 ≤ v + 1 := by omega
  have n4 : v + 1 ≤ 4 := by omega
  generalize v + 1 = n at *
  obtain ⟨F, a2, b2, hf, p2, r2⟩ := k_faces (i := 1) (c := false) (e := [.vl z, .ow false (potL a1 b1), .vl t, .vl (nD n), x4]) n1 n4 p1 rfl
  have r2 : runPM 1 N__law_faces.length ps__law_faces.length m__law_faces [nD n] [.vl z, .ow false (potL a1 b1), .vl t, .vl (nD n), x4] = some (.ok ⟨facesD n F, false⟩ [.vl z, .ow false (potL a2 b2), .vl t, .vl (nD n), x4]) := r2
  obtain ⟨q, a3, b3, fq, p3, r3⟩ := k_msgs (i := 1) (c := false) (e := [.vl z, .ow false (potL a2 b2), .vl t, .vl (nD n), .vl (facesD n F)]) n1 n4 p2 rfl
  have r3 : runPM 1 N__law_messages.length ps__law_messages.length m__law_messages [nD n] [.vl z, .ow false (potL a2 b2), .vl t, .vl (nD n), .vl (facesD n F)] = some (.ok ⟨msD ((fullL n).filter q), false⟩ [.vl z, .ow false (potL a3 b3), .vl t, .vl (nD n), .vl (facesD n F)]) := r3
  obtain ⟨a4, b4, p4, g1⟩ := k_right (i := 1) (c := false) (e := [.vl z, .ow false (potL a3 b3), .vl t, .vl (nD n), .vl (facesD n F)]) hf fq p3 rfl
  have g1 : runPM 1 N__law_right.length ps__law_right.length m__law_right [facesD n F, msD ((fullL n).filter q)] [.vl z, .ow false (potL a3 b3), .vl t, .vl (nD n), .vl (facesD n F)] = some (.ok ⟨.bool true, false⟩ [.vl z, .ow false (potL a4 b4), .vl t, .vl (nD n), .vl (facesD n F)]) := g1
  have fa : Fine n ((fullL n).filter fun _ => true) := fine_of n1 n4 _ fun s hs => by
    rw [filter_true]
    exact full_cov n1 n4 s hs
  rw [filter_true] at fa
  obtain ⟨a5, b5, p5, g2⟩ := k_right (i := 1) (c := false) (e := [.vl z, .ow false (potL a4 b4), .vl t, .vl (nD n), .vl (facesD n F)]) hf fa p4 rfl
  have g2 : runPM 1 N__law_right.length ps__law_right.length m__law_right [facesD n F, msD (fullL n)] [.vl z, .ow false (potL a4 b4), .vl t, .vl (nD n), .vl (facesD n F)] = some (.ok ⟨.bool true, false⟩ [.vl z, .ow false (potL a5 b5), .vl t, .vl (nD n), .vl (facesD n F)]) := g2
  have ks := fun e => k__law_sets (n := n) n1 n4 e
  have tu : tupleF [lmD (fullL n)] = some ⟨msD (fullL n), false⟩ := rfl
  refine ⟨a5, b5, .vl (nD n), .vl (facesD n F), p5, ?_⟩
  generalize potL a b = q0 at *
  generalize potL a1 b1 = q1 at *
  generalize potL a2 b2 = q2 at *
  generalize potL a3 b3 = q3 at *
  generalize potL a4 b4 = q4 at *
  generalize potL a5 b5 = q5 at *
  generalize msD ((fullL n).filter q) = w1 at *
  generalize msD (fullL n) = w2 at *
  generalize lmD (fullL n) = w3 at *
  generalize facesD n F = w4 at *
  generalize nD n = w5 at *
  have s0 : nameM 2 t [.vl z, .ow false q0, x2, x3, x4] = some (.ok () [.vl z, .ow false q0, .vl t, x3, x4]) := by simp
  rw [b_law_0, bodyM, run_bind, s0, bndR_ok, run_then (e1 := [.vl z, .ow false q1, .vl t, .vl w5, x4]) (by simp [r1, ad]), run_then (e1 := [.vl z, .ow false q2, .vl t, .vl w5, .vl w4]) (by simp [r2]),
    run_then (e1 := [.vl z, .ow false q5, .vl t, .vl w5, .vl w4]) (by simp [r3, g1, ks, tu, g2])]
  rfl
theorem plain (nums : List Int) (hn : nums.length ≤ 63) : ∃ e2, m_law (.vl (.list (nums.map PyData.int)) :: List.replicate (N_law.length - 1) .un) = some (.ok (.rt ⟨.bool true, false⟩) e2) := by
  obtain ⟨a, b, p, hp⟩ := r__law_pot nums
  have kp : ∀ e, runM N__law_pot.length ps__law_pot.length m__law_pot [.list (nums.map PyData.int), .int 0] e = some (.ok ⟨.list (potL a b), true⟩ e) := fun e => runM_eq rfl rfl hp
  generalize PyData.list (nums.map PyData.int) = z at *
  have lp := for_inv (step := b_law_0) nD (fun s : (Int × Int) × Sl × Sl × Sl => [.vl z, .ow false (potL s.1.1 s.1.2), s.2.1, s.2.2.1, s.2.2.2]) (fun s rem => Pot s.1.1 s.1.2) (fun x rem s hs => by
    obtain ⟨a', b', y3, y4, q1, q2⟩ := law_step (z := z) (t := nD x) hs s.2.1 s.2.2.1 s.2.2.2
    exact ⟨((a', b'), .vl (nD x), y3, y4), q2, q1⟩) (List.range 3) ((a, b), .un, .un, .un) p
  obtain ⟨s, h, _⟩ := lp
  have m0 : rng1M (toO (pure ⟨.int 3, false⟩)) [.vl z, .ow false (potL a b), .un, .un, .un] = some (.ok ((List.range 3).map nD) [.vl z, .ow false (potL a b), .un, .un, .un]) := by
    have : rngD [.int 3] = some ((List.range 3).map nD) := rngD_nat (n := 3) (by decide)
    generalize (List.range 3).map nD = w at *
    simp [rng1M, this]
  refine ⟨[.vl z, .ow false (potL s.1.1 s.1.2), s.2.1, s.2.2.1, s.2.2.2], ?_⟩
  show m_law [.vl z, .un, .un, .un, .un] = _
  rw [m_law, run_then (e1 := [.vl z, .ow false (potL a b), .un, .un, .un]) (by
    have kp := kp [.vl z, .un, .un, .un, .un]
    generalize potL a b = q at *
    simp [kp]), run_then (run_for m0 h)]
  exact run_thenR (run_ret (by simp))
end Lw

set_option Elab.async false
set_option linter.all false
set_option maxRecDepth 100000
set_option maxHeartbeats 0
open PySem PySem.W PySem.Calls PyProof.Rows
theorem PySem.Challenge.cw_asktell_k86_any_values_as_ways_and_refus_holds : PySem.Challenge.rw_asktell_k86_any_values_as_ways_and_refus.Holds := by
  w_on; o_law
  refine HandSHeadRun.head_any (r := OpenLaw.row PySem.Challenge.rw_asktell_k86_any_values_as_ways_and_refus) (q := view (OpenLaw.row PySem.Challenge.rw_asktell_k86_any_values_as_ways_and_refus).prog [48]) (H := Hd.hk) (ob := Hd.ob) (M := 4000) (loose := Hd.oth) (d := HandSHeadRun.topDef (OpenLaw.row PySem.Challenge.rw_asktell_k86_any_values_as_ways_and_refus).prog 48) (kwd := []) Hd.ob_eq
    (by kernel_rfl) (fun s => by kernel_rfl) Hd.run (by kernel_rfl) (by kernel_rfl) (by kernel_rfl) (by rfl) (by first | assumption | decide +kernel) (by decide +kernel) ⟨rfl, rfl, rfl, rfl, rfl, by decide +kernel⟩ ?hw ?hc
  case hw => w_witness2
  case hc =>
    refine Ev.walk_G (l := PySem.Challenge.rw_asktell_k86_any_values_as_ways_and_refus) (n := 63) (k := 13) (x := "script") rfl (by decide) (by kernel_rfl) ⟨rfl, by decide, by decide⟩ ?F
    intro w mg fa h Y G hmg0
    obtain ⟨K, KX, c⟩ := Y
    have hmg : mg ("law" : PySem.Str) = some (.ref fa) := by
      have e : (HandSHeadRun.topDef (OpenLaw.row PySem.Challenge.rw_asktell_k86_any_values_as_ways_and_refus).prog 48).name = ("law" : PySem.Str) := by kernel_rfl
      rw [← e]
      exact hmg0
    have glo : mg ("law" : PySem.Str) = some (.ref (He.fAd K ("law", none))) := He.glo_ok KX G (c.fact 39 (f := .glo "law") rfl)
    have efa : fa = He.fAd K ("law", none) := by
      rw [hmg] at glo
      cases glo
      rfl
    subst efa
    obtain ⟨fd, D⟩ := c.def_ 39 (d := Hd.dd 48 "law") rfl
    exact ⟨K, fd, _, KX, fun s u => L2.FunD.bindsA (ps := ["script"]) D (fun _ _ _ _ _ _ us hl => match us, hl with | [_], _ => rfl) s [u] rfl, fun H a nums hn _ hS => Ev.law_sp hS (Lw.plain nums hn).choose_spec, fun base _ _ => Lw.fn_law (P := PySem.Challenge.rw_asktell_k86_any_values_as_ways_and_refus.prog) (w := w) c KX G D base⟩


