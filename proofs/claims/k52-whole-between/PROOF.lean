import PyProof.Rows.All
import Wide.All
import OpenK.AllK
import Wide.FinOn
import HandS.ForMost
import HandS.TupAny
import HandS.IsInst
import PySem.Challenge.RW_plainglass_k52_whole_between
set_option Elab.async false
set_option linter.all false
set_option maxRecDepth 100000
set_option maxHeartbeats 4000000
/-! A data layer over the hand layer: readings that are plain functions on data. -/
namespace DL
open PySem PySem.Spec PyProof.Rows L2

/-! ### 1. data on an abstract heap -/
abbrev Ds := List (Option PyData)
section
variable {K : PySem.W.Frag} {H H' Hi Hi' : Hp} {a : Addr} {xs : List V}
theorem sm_rd {u : HO} (e : Same H H') (h : Rd H a u) : Rd H' a u := by
  rcases h with h | ⟨o, h⟩
  · exact .inl (e _ _ h)
  · exact .inr ⟨o, e _ _ h⟩
theorem sm_t (e : Same H H') (h : SqT K H a xs) : SqT K H' a xs := by
  rcases h with h | h
  · exact .inl (sm_rd e h)
  · exact .inr h
mutual
theorem dp_mono (e : Same H H') : ∀ (d : PyData) (v : V), Dp K H v d → Dp K H' v d
  | .none, _, h => by cases h; exact .non
  | .bool b, _, h => by cases h; exact .bl b
  | .int i, _, h => by cases h; exact .int i
  | .str x, _, h => by cases h; exact .str x
  | .list ds, _, h => by
    cases h with
    | lst hs ha => exact .lst (Same.seq e hs) (dpa_mono e ds _ ha)
  | .tuple ds, _, h => by
    cases h with
    | tup hs ha => exact .tup (sm_t e hs) (dpa_mono e ds _ ha)
  | .dict _, _, h => by cases h
theorem dpa_mono (e : Same H H') : ∀ (ds : List PyData) (vs : List V), DpAll K H vs ds → DpAll K H' vs ds
  | [], _, h => by cases h; exact .nil
  | d :: ds, _, h => by
    cases h with
    | cons h1 h2 => exact .cons (dp_mono e d _ h1) (dpa_mono e ds _ h2)
end
theorem dpa_len : ∀ {ds : List PyData} {vs : List V}, DpAll K H vs ds → vs.length = ds.length
  | [], _, h => by cases h; rfl
  | d :: ds, _, h => by
    cases h with
    | cons h1 h2 => simp only [List.length_cons, dpa_len h2]
theorem dpa_get : ∀ {ds : List PyData} {vs : List V} {i : Nat} {d : PyData}, DpAll K H vs ds → ds[i]? = some d → ∃ v, vs[i]? = some v ∧ Dp K H v d
  | [], _, _, _, h, e => by cases h; simp at e
  | d :: ds, _, i, _, h, e => by
    cases h with
    | cons h1 h2 =>
      cases i with
      | zero => simp at e; subst e; exact ⟨_, rfl, h1⟩
      | succ i =>
        obtain ⟨v, hv, hd⟩ := dpa_get (i := i) h2 (by simpa using e)
        exact ⟨v, by simpa using hv, hd⟩
theorem dpa_get2 {ds : List PyData} {vs : List V} {i : Nat} {v : V} (h : DpAll K H vs ds) (e : vs[i]? = some v) : ∃ d, ds[i]? = some d ∧ Dp K H v d := by
  have hi : i < vs.length := (List.getElem?_eq_some_iff.mp e).1
  have hd : ds[i]? = some (ds[i]'(by rw [← dpa_len h]; exact hi)) := List.getElem?_eq_getElem _
  obtain ⟨v', hv, k⟩ := dpa_get h hd
  rw [e] at hv; cases hv
  exact ⟨_, hd, k⟩
theorem dpa_append : ∀ {ds es : List PyData} {vs us : List V}, DpAll K H vs ds → DpAll K H us es → DpAll K H (vs ++ us) (ds ++ es)
  | [], _, _, _, h, k => by cases h; exact k
  | d :: ds, _, _, _, h, k => by
    cases h with
    | cons h1 h2 => exact .cons h1 (dpa_append h2 k)
theorem dpa_take : ∀ {ds : List PyData} {vs : List V} (n : Nat), DpAll K H vs ds → DpAll K H (vs.take n) (ds.take n)
  | _, _, 0, _ => .nil
  | [], _, n + 1, h => by cases h; exact .nil
  | d :: ds, _, n + 1, h => by
    cases h with
    | cons h1 h2 => exact .cons h1 (dpa_take n h2)
theorem dpa_drop : ∀ {ds : List PyData} {vs : List V} (n : Nat), DpAll K H vs ds → DpAll K H (vs.drop n) (ds.drop n)
  | _, _, 0, h => h
  | [], _, n + 1, h => by cases h; exact .nil
  | d :: ds, _, n + 1, h => by
    cases h with
    | cons h1 h2 => exact dpa_drop n h2
theorem dp_tup {v : V} {ds : List PyData} (h : Dp K H v (.tuple ds)) : ∃ a xs, v = .ref a ∧ SqT K H a xs ∧ DpAll K H xs ds := by
  cases h with
  | tup hs ha => exact ⟨_, _, rfl, hs, ha⟩
theorem dp_lst {v : V} {ds : List PyData} (h : Dp K H v (.list ds)) : ∃ a xs, v = .ref a ∧ SqL K H a xs ∧ DpAll K H xs ds := by
  cases h with
  | lst hs ha => exact ⟨_, _, rfl, hs, ha⟩
theorem dp_int {v : V} {i : Int} (h : Dp K H v (.int i)) : v = .int i := by cases h; rfl
theorem dp_str {v : V} {x : Str} (h : Dp K H v (.str x)) : v = .str x := by cases h; rfl
theorem dp_bl {v : V} {b : Bool} (h : Dp K H v (.bool b)) : v = .bl b := by cases h; rfl
theorem dp_non {v : V} (h : Dp K H v .none) : v = .non := by cases h; rfl
theorem dpa_ints : ∀ {ns : List Int} {vs : List V}, DpAll K H vs (ns.map PyData.int) → vs = ns.map V.int
  | [], _, h => by cases h; rfl
  | n :: ns, _, h => by
    cases h with
    | cons h1 h2 => rw [dp_int h1, dpa_ints h2]; rfl
theorem ints_dpa : ∀ (ns : List Int), DpAll K H (ns.map V.int) (ns.map PyData.int)
  | [] => .nil
  | n :: ns => .cons (.int n) (ints_dpa ns)

/-- one step on: Hi the part of H that the data speak of -/
structure Step (Hi H Hi' H' : Hp) : Prop where
  i : Same Hi Hi'
  h : Same H H'
  s : Same Hi' H'
  n : ∀ a, H a ≠ none → Hi a = none → Hi' a = none
theorem Step.refl (s : Same Hi H) : Step Hi H Hi H := ⟨Same.refl _, Same.refl _, s, fun _ _ h => h⟩
theorem sm_ne (e : Same H H') {a : Addr} (h : H a ≠ none) : H' a ≠ none := by
  cases q : H a with
  | none => exact absurd q h
  | some o => rw [e a o q]; exact fun z => nomatch z
theorem Step.trans {H1 H2 H3 K1 K2 K3 : Hp} (x : Step H1 K1 H2 K2) (y : Step H2 K2 H3 K3) : Step H1 K1 H3 K3 :=
  ⟨x.i.trans y.i, x.h.trans y.h, y.s, fun a h1 h2 => y.n a (sm_ne x.h h1) (x.n a h1 h2)⟩
theorem same_new {H : Hp} {p : Addr} (h : H p = none) (o : HO) : Same H (upd H p o) := fun b u q => by rw [upd_ne (ne_of_none q h)]; exact q
theorem Step.new {p : Addr} {o : HO} (s : Same Hi H) (h : H p = none) : Step Hi H (upd Hi p o) (upd H p o) := by
  refine ⟨same_new (Same.free s h) o, same_new h o, fun b u e => ?_, fun b h1 h2 => ?_⟩
  · by_cases hb : b = p
    · subst hb; rw [upd_same] at e ⊢; exact e
    · rw [upd_ne hb] at e ⊢; exact s b u e
  · have hb : b ≠ p := fun z => h1 (z ▸ h)
    rw [upd_ne hb]; exact h2
end

/-! ### 2. slots -/
structure EnvD (K : PySem.W.Frag) (Hi : Hp) (σ : L2.St) (D : Ds) : Prop where
  len : σ.length = D.length
  get : ∀ (i : Nat) (d : PyData), D[i]? = some (some d) → ∃ v : V, σ[i]? = some (some v) ∧ Dp K Hi v d
section
variable {K : PySem.W.Frag} {H H' Hi Hi' : Hp} {σ : L2.St} {D : Ds}
theorem EnvD.mono (E : EnvD K Hi σ D) (e : Same Hi Hi') : EnvD K Hi' σ D :=
  ⟨E.len, fun i d h => let ⟨v, h1, h2⟩ := E.get i d h; ⟨v, h1, dp_mono e d v h2⟩⟩
theorem EnvD.set {i : Nat} {v : V} {d : PyData} (E : EnvD K Hi σ D) (h : Dp K Hi v d) : EnvD K Hi (σ.set i (some v)) (D.set i (some d)) := by
  refine ⟨by simp [E.len], fun j e hj => ?_⟩
  by_cases hij : i = j
  · subst hij
    have hi : i < D.length := by
      have := (List.getElem?_eq_some_iff.mp hj).1
      simpa using this
    rw [List.getElem?_set_self hi] at hj
    cases hj
    exact ⟨v, by rw [List.getElem?_set_self (by rw [E.len]; exact hi)], h⟩
  · rw [List.getElem?_set_ne hij] at hj ⊢
    exact E.get j e hj
theorem EnvD.drop {i : Nat} {o : Option V} (E : EnvD K Hi σ D) : EnvD K Hi (σ.set i o) (D.set i none) := by
  refine ⟨by simp [E.len], fun j e hj => ?_⟩
  by_cases hij : i = j
  · subst hij
    have hi : i < D.length := by
      have := (List.getElem?_eq_some_iff.mp hj).1
      simpa using this
    rw [List.getElem?_set_self hi] at hj
    cases hj
  · rw [List.getElem?_set_ne hij] at hj ⊢
    exact E.get j e hj
end

/-- what a body owns: a state s, how it stands in the heap, the slots that may be stored freely, the slot that holds it -/
structure Ow (S : Type) where
  At : Hp → Hp → L2.St → S → Prop
  fr : Nat → Bool
  slot : Nat
  step : ∀ {Hi H Hi' H' : Hp} {σ : L2.St} {s : S}, At Hi H σ s → Step Hi H Hi' H' → At Hi' H' σ s
  set : ∀ {Hi H : Hp} {σ : L2.St} {s : S} {i : Nat} {o : Option V}, At Hi H σ s → fr i = true → At Hi H (σ.set i o) s
/-- a body that owns nothing: it has gone on from the entry -/
def ow0 (Hi0 H0 : Hp) : Ow Unit where
  At := fun Hi H _ _ => Step Hi0 H0 Hi H
  fr := fun _ => true
  slot := 0
  step := fun a b => a.trans b
  set := fun a _ => a

/-! ### 3. readings -/
abbrev FE (S : Type) := Ds → S → Option PyData
abbrev FT (S : Type) := Ds → S → Option Bool
abbrev FA (S : Type) := Ds → S → Option (List PyData)
abbrev FO (S : Type) := Ds → S → Option (Option Int)
inductive Res (S : Type) where
  | nx (D : Ds) (s : S) | rt (d : PyData) (s : S) | bk (D : Ds) (s : S) | ct (D : Ds) (s : S) | ro (s : S)
abbrev FS (S : Type) := Ds → S → Option (Res S)
section
variable {S : Type} (K : PySem.W.Frag) (O : Ow S)
def tD (f : FE S) : TE := fun σ H Q => ∃ D s Hi d, EnvD K Hi σ D ∧ Same Hi H ∧ O.At Hi H σ s ∧ f D s = some d ∧ ∀ v Hi' H', Step Hi H Hi' H' → Dp K Hi' v d → Q v H'
def tDT (f : FT S) : TT := fun σ H Q => ∃ D s Hi b, EnvD K Hi σ D ∧ Same Hi H ∧ O.At Hi H σ s ∧ f D s = some b ∧ ∀ Hi' H', Step Hi H Hi' H' → Q b H'
def tDA (f : FA S) : TA := fun σ H Q => ∃ D s Hi ds, EnvD K Hi σ D ∧ Same Hi H ∧ O.At Hi H σ s ∧ f D s = some ds ∧ ∀ vs Hi' H', Step Hi H Hi' H' → DpAll K Hi' vs ds → Q vs H'
def tDO (f : FO S) : TO := fun σ H Q => ∃ D s Hi o, EnvD K Hi σ D ∧ Same Hi H ∧ O.At Hi H σ s ∧ f D s = some o ∧ ∀ Hi' H', Step Hi H Hi' H' → Q o H'
def wants (Hi : Hp) (E : Ends) : Res S → Prop
  | .nx D' s' => ∀ σ' Hi' H', Same Hi Hi' → EnvD K Hi' σ' D' → Same Hi' H' → O.At Hi' H' σ' s' → E.nx σ' H'
  | .ct D' s' => ∀ σ' Hi' H', Same Hi Hi' → EnvD K Hi' σ' D' → Same Hi' H' → O.At Hi' H' σ' s' → E.ct σ' H'
  | .bk D' s' => ∀ σ' Hi' H', Same Hi Hi' → EnvD K Hi' σ' D' → Same Hi' H' → O.At Hi' H' σ' s' → E.bk σ' H'
  | .rt d s' => ∀ σ' v Hi' H', Same Hi' H' → O.At Hi' H' σ' s' → Dp K Hi' v d → E.rt v H'
  | .ro s' => ∀ σ' v Hi' H', Same Hi' H' → O.At Hi' H' σ' s' → σ'[O.slot]? = some (some v) → E.rt v H'
def tDS (f : FS S) : TS := fun E σ H => ∃ D s Hi r, EnvD K Hi σ D ∧ Same Hi H ∧ O.At Hi H σ s ∧ f D s = some r ∧ wants K O Hi E r
end
section
variable {X : Cx}
theorem pe_w {e : Expr} {t t' : TE} (h : PE X e t) (k : ∀ σ H Q, t' σ H Q → t σ H Q) : PE X e t' := ⟨fun pins s σ H Q I q => h.run pins s σ H Q I (k σ H Q q)⟩
theorem pt_w {e : Expr} {t t' : TT} (h : PT X e t) (k : ∀ σ H Q, t' σ H Q → t σ H Q) : PT X e t' := ⟨fun pins s σ H Q I q => h.run pins s σ H Q I (k σ H Q q)⟩
theorem pw_w {e : Expr} {t t' : TT} (h : PW X e t) (k : ∀ σ H Q, t' σ H Q → t σ H Q) : PW X e t' := ⟨fun wh pins s σ H Q I q => h.run wh pins s σ H Q I (k σ H Q q)⟩
theorem pa_w {es : List Expr} {t t' : TA} (h : PA X es t) (k : ∀ σ H Q, t' σ H Q → t σ H Q) : PA X es t' := ⟨fun pos pins s σ H Q I q => h.run pos pins s σ H Q I (k σ H Q q)⟩
theorem po_w {e : Option Expr} {t t' : TO} (h : PO X e t) (k : ∀ σ H Q, t' σ H Q → t σ H Q) : PO X e t' := ⟨fun pins s σ H Q I q => h.run pins s σ H Q I (k σ H Q q)⟩
theorem ps_w {st : Stmt} {t t' : TS} (h : PS X st t) (k : ∀ E σ H, t' E σ H → t E σ H) : PS X st t' := ⟨fun pins s σ H D I q => h.run pins s σ H D I (k D σ H q)⟩
theorem pss_w {st : List Stmt} {t t' : TS} (h : PSs X st t) (k : ∀ E σ H, t' E σ H → t E σ H) : PSs X st t' := ⟨fun pins s σ H D I q => h.run pins s σ H D I (k D σ H q)⟩
end

/-! ### 4. functions on data -/
section
variable {S : Type}
def fVar (i : Nat) : FE S := fun D _ => (D[i]?).getD none
def fC (d : PyData) : FE S := fun _ _ => some d
def fBin (g : PyData → PyData → Option PyData) (a b : FE S) : FE S := fun D s => (a D s).bind fun x => (b D s).bind fun y => g x y
def fUn (g : PyData → Option PyData) (a : FE S) : FE S := fun D s => (a D s).bind g
def asB : PyData → Option Bool
  | .bool b => some b
  | _ => none
def fTst (a : FE S) : FT S := fun D s => (a D s).bind asB
def gTru : PyData → Option Bool
  | .none => some false
  | .bool b => some b
  | .int i => some (i != 0)
  | .list xs => some (!xs.isEmpty)
  | .tuple xs => some (!xs.isEmpty)
  | _ => none
def fTru (a : FE S) : FT S := fun D s => (a D s).bind gTru
def fAndT (a b : FT S) : FT S := fun D s => (a D s).bind fun c => if c = true then b D s else some false
def fOrT (a b : FT S) : FT S := fun D s => (a D s).bind fun c => if c = true then some true else b D s
def fNotT (a : FT S) : FT S := fun D s => (a D s).bind fun c => some (!c)
def fAndV (a b : FE S) : FE S := fun D s => (a D s).bind fun x => (asB x).bind fun c => if c = true then b D s else some (.bool false)
def fNil : FA S := fun _ _ => some []
def fCons (a : FE S) (r : FA S) : FA S := fun D s => (a D s).bind fun x => (r D s).bind fun xs => some (x :: xs)
def fIfE (c : FT S) (a b : FE S) : FE S := fun D s => (c D s).bind fun k => if k = true then a D s else b D s
def gAdd : PyData → PyData → Option PyData
  | .int i, .int j => some (.int (i + j))
  | .tuple xs, .tuple ys => if xs.length + ys.length ≤ sizeLine then some (.tuple (xs ++ ys)) else none
  | _, _ => none
def gSub : PyData → PyData → Option PyData
  | .int i, .int j => some (.int (i - j))
  | _, _ => none
/-- the product, where one side is below 2^64 -/
def gMul : PyData → PyData → Option PyData
  | .int i, .int j => if (-(2 ^ 64) < i ∧ i < 2 ^ 64) ∨ (-(2 ^ 64) < j ∧ j < 2 ^ 64) then some (.int (i * j)) else none
  | _, _ => none
def gFdiv : PyData → PyData → Option PyData
  | .int i, .int j => if j ≠ 0 ∧ j.natAbs < 1073741824 then some (.int (i.fdiv j)) else none
  | _, _ => none
def gMod : PyData → PyData → Option PyData
  | .int i, .int j => if j ≠ 0 then some (.int (i.fmod j)) else none
  | _, _ => none
def gNeg : PyData → Option PyData
  | .int i => some (.int (-i))
  | _ => none
def gCmp (p : Int → Int → Bool) : PyData → PyData → Option PyData
  | .int i, .int j => some (.bool (p i j))
  | _, _ => none
def gEq (d e : PyData) : Option PyData := if d.canLay0 = true ∧ e.canLay0 = true ∧ min d.depth e.depth ≤ 200 then some (.bool (PyData.eqv d e)) else none
def gNe (d e : PyData) : Option PyData := if d.canLay0 = true ∧ e.canLay0 = true ∧ min d.depth e.depth ≤ 200 then some (.bool (!PyData.eqv d e)) else none
def isS : PyData → Bool
  | .str _ => true
  | _ => false
def sameS (x : Str) : PyData → Bool
  | .str y => y == x
  | _ => false
def gIn : PyData → PyData → Option PyData
  | .str x, .tuple ds => if ds.all isS = true then some (.bool (ds.any (sameS x))) else none
  | _, _ => none
def gNotIn : PyData → PyData → Option PyData
  | .str x, .tuple ds => if ds.all isS = true then some (.bool (!ds.any (sameS x))) else none
  | _, _ => none
def gIx : PyData → PyData → Option PyData
  | .list xs, .int i => atI xs i
  | .tuple xs, .int i => atI xs i
  | _, _ => none
def gLen : PyData → Option PyData
  | .list xs => some (.int xs.length)
  | .tuple xs => some (.int xs.length)
  | _ => none
def isTup : PyData → Bool
  | .tuple _ => true
  | _ => false
def isLst : PyData → Bool
  | .list _ => true
  | _ => false
def gIsTup (d : PyData) : Option PyData := match d with
  | .dict _ => none
  | d => some (.bool (isTup d))
def gIsLst (d : PyData) : Option PyData := match d with
  | .dict _ => none
  | d => some (.bool (isLst d))
def fTup (a : FA S) : FE S := fun D s => (a D s).bind fun xs => if xs.length ≤ sizeLine then some (.tuple xs) else none
def fLst (a : FA S) : FE S := fun D s => (a D s).bind fun xs => if xs.length ≤ sizeLine then some (.list xs) else none
def gTupleOf : PyData → Option PyData
  | .list xs => some (.tuple xs)
  | .tuple xs => some (.tuple xs)
  | _ => none
def bools : List PyData → Option (List Bool)
  | [] => some []
  | .bool b :: r => (bools r).bind fun bs => some (b :: bs)
  | _ :: _ => none
def gAll : PyData → Option PyData
  | .list xs => (bools xs).bind fun bs => some (.bool (bs.all id))
  | _ => none
def gMax : PyData → PyData → Option PyData
  | .int i, .int j => some (.int (if j > i then j else i))
  | _, _ => none
def gMin : PyData → PyData → Option PyData
  | .int i, .int j => some (.int (if j < i then j else i))
  | _, _ => none
def gIntOf : PyData → Option PyData
  | .int i => some (.int i)
  | .bool b => some (.int (if b then 1 else 0))
  | _ => none
def codesOf (x : Str) : List Int := x.cps.toList.map fun (c : Nat) => (c : Int)
def gCodes : PyData → Option PyData
  | .int i => if i.natAbs.log2 < 1920 ∧ (codesOf (toString i : Str)).length ≤ sizeLine then some (.list ((codesOf (toString i : Str)).map PyData.int)) else none
  | _ => none
def asI : PyData → Option Int
  | .int i => some i
  | _ => none
def oNone : FO S := fun _ _ => some none
def oSome (a : FE S) : FO S := fun D s => (a D s).bind fun d => (asI d).bind fun i => some (some i)
def cutD (xs : List PyData) (lo hi : Option Int) : List PyData := (xs.drop (HT.sIx xs.length 0 lo)).take (HT.sIx xs.length xs.length hi - HT.sIx xs.length 0 lo)
def fSl (a : FE S) (l h : FO S) : FE S := fun D s => (a D s).bind fun d => (l D s).bind fun lo => (h D s).bind fun hi => match d with
  | .tuple xs => some (.tuple (cutD xs lo hi))
  | _ => none
def fCall (n : Nat) (F : List PyData → Option PyData) (a : FA S) : FE S := fun D s => (a D s).bind fun ds => if ds.length = n then F ds else none
/-- what a for or a comprehension walks -/
def itemsT : PyData → Option (List PyData)
  | .tuple xs => some xs
  | _ => none
def itemsL : PyData → Option (List PyData)
  | .list xs => some xs
  | _ => none
def compL (i : Nat) (t : FT S) (e : FE S) : List PyData → FA S
  | [], _, _ => some []
  | x :: xs, D, s => (t (D.set i (some x)) s).bind fun b =>
      if b = true then (e (D.set i (some x)) s).bind fun y => (compL i t e xs D s).bind fun ys => some (y :: ys) else compL i t e xs D s
def fYes : FT S := fun _ _ => some true
def fComp (im : PyData → Option (List PyData)) (i : Nat) (it : FE S) (t : FT S) (e : FE S) : FE S := fun D s => (it D s).bind fun d => (im d).bind fun xs =>
  if xs.length ≤ sizeLine then (compL i t e xs D s).bind fun ys => some (.list ys) else none
def rangeL (lo : Int) (n : Nat) : List PyData := (List.range n).map fun (k : Nat) => PyData.int (lo + (k : Int))
def okR (i : Int) : Prop := -(2 ^ 62) ≤ i ∧ i < 2 ^ 62
instance (i : Int) : Decidable (okR i) := by unfold okR; exact inferInstance
def range1 : PyData → Option (List PyData)
  | .int j => if okR j then some (rangeL 0 j.toNat) else none
  | _ => none
def range2 : PyData → PyData → Option (List PyData)
  | .int i, .int j => if okR i ∧ okR j then some (rangeL i (j - i).toNat) else none
  | _, _ => none
/-! statements -/
def sNil : FS S := fun D s => some (.nx D s)
def sSeq (a b : FS S) : FS S := fun D s => match a D s with
  | some (.nx D' s') => b D' s'
  | r => r
def sAsg (i : Nat) (e : FE S) : FS S := fun D s => (e D s).bind fun d => some (.nx (D.set i (some d)) s)
def sRet (e : FE S) : FS S := fun D s => (e D s).bind fun d => some (.rt d s)
def sIf (c : FT S) (a b : FS S) : FS S := fun D s => (c D s).bind fun k => if k = true then a D s else b D s
def forL (st : PyData → Ds → Option Ds) (b : FS S) : List PyData → FS S
  | [], D, s => some (.nx D s)
  | x :: xs, D, s => (st x D).bind fun D1 => match b D1 s with
    | some (.nx D' s') => forL st b xs D' s'
    | some (.ct D' s') => forL st b xs D' s'
    | some (.bk D' s') => some (.nx D' s')
    | r => r
def st1 (i : Nat) (x : PyData) (D : Ds) : Option Ds := some (D.set i (some x))
def st2 (i j : Nat) : PyData → Ds → Option Ds
  | .tuple [x, y], D => some ((D.set i (some x)).set j (some y))
  | _, _ => none
def sFor (im : PyData → Option (List PyData)) (st : PyData → Ds → Option Ds) (it : FE S) (b : FS S) : FS S := fun D s => (it D s).bind fun d => (im d).bind fun xs => forL st b xs D s
def sFor2 (st : PyData → Ds → Option Ds) (a a2 : FE S) (b : FS S) : FS S := fun D s => (a D s).bind fun d => (a2 D s).bind fun d2 => (range2 d d2).bind fun xs => forL st b xs D s
def whileN (c : FT S) (b : FS S) : Nat → FS S
  | 0, _, _ => none
  | n + 1, D, s => (c D s).bind fun k => if k = true then (match b D s with
    | some (.nx D' s') => whileN c b n D' s'
    | some (.ct D' s') => whileN c b n D' s'
    | some (.bk D' s') => some (.nx D' s')
    | r => r) else some (.nx D s)
end
def startD (N : Nat) (ds : List PyData) : Ds := ds.map some ++ List.replicate (N - ds.length) none
def runF (N : Nat) (f : FS Unit) (ds : List PyData) : Option PyData := match f (startD N ds) () with
  | some (.rt d _) => some d
  | some (.nx _ _) => some .none
  | _ => none
end DL

namespace DL
open PySem PySem.Spec PyProof.Rows L2

/-! ### 5. values: what an operation gives, over data -/
/-- r does g -/
def Does2 (K : PySem.W.Frag) (r : R2) (g : PyData → PyData → Option PyData) : Prop :=
  ∀ (Hi H : Hp) (x y : V) (c d e : PyData) (Q : VK), Same Hi H → Dp K Hi x c → Dp K Hi y d → g c d = some e → (∀ v Hi' H', Step Hi H Hi' H' → Dp K Hi' v e → Q v H') → r x y H Q
def Does1 (K : PySem.W.Frag) (r : V → Hp → VK → Prop) (g : PyData → Option PyData) : Prop :=
  ∀ (Hi H : Hp) (x : V) (c e : PyData) (Q : VK), Same Hi H → Dp K Hi x c → g c = some e → (∀ v Hi' H', Step Hi H Hi' H' → Dp K Hi' v e → Q v H') → r x H Q
/-- a call's r, of one value, of two -/
def DoesC1 (K : PySem.W.Frag) (r : List V → Hp → VK → Prop) (g : PyData → Option PyData) : Prop :=
  ∀ (Hi H : Hp) (x : V) (c e : PyData) (Q : VK), Same Hi H → Dp K Hi x c → g c = some e → (∀ v Hi' H', Step Hi H Hi' H' → Dp K Hi' v e → Q v H') → r [x] H Q
def DoesC2 (K : PySem.W.Frag) (r : List V → Hp → VK → Prop) (g : PyData → PyData → Option PyData) : Prop :=
  ∀ (Hi H : Hp) (x y : V) (c d e : PyData) (Q : VK), Same Hi H → Dp K Hi x c → Dp K Hi y d → g c d = some e → (∀ v Hi' H', Step Hi H Hi' H' → Dp K Hi' v e → Q v H') → r [x, y] H Q
section
variable {K : PySem.W.Frag}
theorem Does2.inl {r r' : R2} {g} (h : Does2 K r g) : Does2 K (fun x y H Q => r x y H Q ∨ r' x y H Q) g := fun Hi H x y c d e Q s hx hy hg q => .inl (h Hi H x y c d e Q s hx hy hg q)

theorem d_sub : Does2 K (rI0 fun i j => .int (i - j)) gSub := by
  intro Hi H x y c d e Q s hx hy hg q
  cases c with
  | int i =>
    cases d with
    | int j =>
      cases (show some (PyData.int (i - j)) = some e from hg)
      exact ⟨i, j, dp_int hx, dp_int hy, q _ Hi H (.refl s) (.int _)⟩
    | _ => exact nomatch hg
  | _ => exact nomatch hg
theorem d_cmp {p : Int → Int → Bool} : Does2 K (rI0 fun i j => .bl (p i j)) (gCmp p) := by
  intro Hi H x y c d e Q s hx hy hg q
  cases c with
  | int i =>
    cases d with
    | int j =>
      cases (show some (PyData.bool (p i j)) = some e from hg)
      exact ⟨i, j, dp_int hx, dp_int hy, q _ Hi H (.refl s) (.bl _)⟩
    | _ => exact nomatch hg
  | _ => exact nomatch hg
theorem d_mul : Does2 K (rI CMul fun i j => .int (i * j)) gMul := by
  intro Hi H x y c d e Q s hx hy hg q
  cases c with
  | int i =>
    cases d with
    | int j =>
      have hg' : (if (-(2 ^ 64) < i ∧ i < 2 ^ 64) ∨ (-(2 ^ 64) < j ∧ j < 2 ^ 64) then some (PyData.int (i * j)) else none) = some e := hg
      split at hg'
      · rename_i hc
        cases hg'
        exact ⟨i, j, dp_int hx, dp_int hy, hc, q _ Hi H (.refl s) (.int _)⟩
      · cases hg'
    | _ => exact nomatch hg
  | _ => exact nomatch hg
theorem d_fdiv : Does2 K (rI CDivN fun i j => .int (i.fdiv j)) gFdiv := by
  intro Hi H x y c d e Q s hx hy hg q
  cases c with
  | int i =>
    cases d with
    | int j =>
      have hg' : (if j ≠ 0 ∧ j.natAbs < 1073741824 then some (PyData.int (i.fdiv j)) else none) = some e := hg
      split at hg'
      · rename_i hc
        cases hg'
        exact ⟨i, j, dp_int hx, dp_int hy, hc, q _ Hi H (.refl s) (.int _)⟩
      · cases hg'
    | _ => exact nomatch hg
  | _ => exact nomatch hg
theorem d_mod : Does2 K (rI (fun _ j => j ≠ 0) fun i j => .int (i.fmod j)) gMod := by
  intro Hi H x y c d e Q s hx hy hg q
  cases c with
  | int i =>
    cases d with
    | int j =>
      have hg' : (if j ≠ 0 then some (PyData.int (i.fmod j)) else none) = some e := hg
      split at hg'
      · rename_i hc
        cases hg'
        exact ⟨i, j, dp_int hx, dp_int hy, hc, q _ Hi H (.refl s) (.int _)⟩
      · cases hg'
    | _ => exact nomatch hg
  | _ => exact nomatch hg
theorem d_neg : Does1 K (rU fun i => .int (-i)) gNeg := by
  intro Hi H x c e Q s hx hg q
  cases c with
  | int i =>
    cases (show some (PyData.int (-i)) = some e from hg)
    exact ⟨i, dp_int hx, q _ Hi H (.refl s) (.int _)⟩
  | _ => exact nomatch hg
theorem d_add : Does2 K (fun x y H Q => rI0 (fun i j => .int (i + j)) x y H Q ∨ rCatA K x y H Q) gAdd := by
  intro Hi H x y c d e Q s hx hy hg q
  cases c with
  | int i =>
    cases d with
    | int j =>
      cases (show some (PyData.int (i + j)) = some e from hg)
      exact .inl ⟨i, j, dp_int hx, dp_int hy, q _ Hi H (.refl s) (.int _)⟩
    | _ => exact nomatch hg
  | tuple ds =>
    cases d with
    | tuple es =>
      have hg' : (if ds.length + es.length ≤ sizeLine then some (PyData.tuple (ds ++ es)) else none) = some e := hg
      split at hg'
      · rename_i hc
        cases hg'
        obtain ⟨a, xs, rfl, ha, hxs⟩ := dp_tup hx
        obtain ⟨b, ys, rfl, hb, hys⟩ := dp_tup hy
        refine .inr ⟨a, b, xs, ys, rfl, rfl, sm_t s ha, sm_t s hb, by rw [dpa_len hxs, dpa_len hys]; exact hc, fun z => ?_, fun _ z => ?_, fun _ _ p hp => ?_⟩
        · subst z
          cases hxs
          exact q _ Hi H (.refl s) (.tup hb hys)
        · subst z
          cases hys
          rw [List.append_nil] at q
          exact q _ Hi H (.refl s) (.tup ha hxs)
        · exact q _ _ _ (.new s hp) (.tup (.of upd_same) (dpa_append (dpa_mono (same_new (Same.free s hp) _) _ _ hxs) (dpa_mono (same_new (Same.free s hp) _) _ _ hys)))
      · cases hg'
    | _ => exact nomatch hg
  | _ => exact nomatch hg
theorem dpa_atI {H : Hp} {ds : List PyData} {vs : List V} {i : Int} {d : PyData} (h : DpAll K H vs ds) (e : atI ds i = some d) : ∃ v, atI vs i = some v ∧ Dp K H v d := by
  unfold atI at e ⊢
  rw [dpa_len h]
  cases hn : ixN ds.length i with
  | none => rw [hn] at e; cases e
  | some j =>
    rw [hn] at e
    exact dpa_get h e
theorem d_ix : Does2 K (rIx K) gIx := by
  intro Hi H x y c d e Q s hx hy hg q
  cases c with
  | list ds =>
    cases d with
    | int i =>
      obtain ⟨a, xs, rfl, ha, hxs⟩ := dp_lst hx
      obtain ⟨v, hv, hd⟩ := dpa_atI (K := K) hxs hg
      exact .inl ⟨a, xs, i, v, rfl, dp_int hy, Same.seq s ha, hv, q _ Hi H (.refl s) hd⟩
    | _ => exact nomatch hg
  | tuple ds =>
    cases d with
    | int i =>
      obtain ⟨a, xs, rfl, ha, hxs⟩ := dp_tup hx
      obtain ⟨v, hv, hd⟩ := dpa_atI (K := K) hxs hg
      exact .inr (.inl ⟨a, xs, i, v, rfl, dp_int hy, sm_t s ha, hv, q _ Hi H (.refl s) hd⟩)
    | _ => exact nomatch hg
  | _ => exact nomatch hg
/-- == over data: any depth that the C stack bears -/
def rEqG (K : PySem.W.Frag) (neg : Bool) : R2 := fun x y H Q => ∃ d e, Dp K H x d ∧ Dp K H y e ∧ d.canLay0 = true ∧ e.canLay0 = true ∧ min d.depth e.depth ≤ 200 ∧ Q (.bl (if neg then !PyData.eqv d e else PyData.eqv d e)) H
theorem op_eqG {X : Cx} (hu : X.A.units + 200 < cLine) : OpR X (compareOp .Eq) (rEqG X.K false) := by
  intro pins s σ H x y v u Q I rx ry h
  obtain ⟨d, e, hd, he, sd, se, hm, q⟩ := h
  obtain ⟨as, r1⟩ := Dp.reads I d x v hd rx
  obtain ⟨bs, r2⟩ := Dp.reads I e y u he ry
  exact SeqAt.compareEq_reads r1 r2 sd se (by omega) ⟨.bl _, H, I, rfl, q⟩
theorem op_neG {X : Cx} (hu : X.A.units + 200 < cLine) : OpR X (compareOp .NotEq) (rEqG X.K true) := by
  intro pins s σ H x y v u Q I rx ry h
  obtain ⟨d, e, hd, he, sd, se, hm, q⟩ := h
  obtain ⟨as, r1⟩ := Dp.reads I d x v hd rx
  obtain ⟨bs, r2⟩ := Dp.reads I e y u he ry
  exact SeqAt.compareNe_reads r1 r2 sd se (by omega) ⟨.bl _, H, I, rfl, q⟩
theorem d_eq : Does2 K (rEqG K false) gEq := by
  intro Hi H x y c d e Q s hx hy hg q
  unfold gEq at hg
  split at hg
  · rename_i hc
    cases hg
    exact ⟨c, d, dp_mono s _ _ hx, dp_mono s _ _ hy, hc.1, hc.2.1, hc.2.2, q _ Hi H (.refl s) (.bl _)⟩
  · cases hg
theorem d_ne : Does2 K (rEqG K true) gNe := by
  intro Hi H x y c d e Q s hx hy hg q
  unfold gNe at hg
  split at hg
  · rename_i hc
    cases hg
    exact ⟨c, d, dp_mono s _ _ hx, dp_mono s _ _ hy, hc.1, hc.2.1, hc.2.2, q _ Hi H (.refl s) (.bl _)⟩
  · cases hg
theorem strs_in {H : Hp} {x : Str} : ∀ {ds : List PyData} {vs : List V}, DpAll K H vs ds → ds.all isS = true → vs.all flatV = true ∧ inV (.str x) vs = ds.any (sameS x)
  | [], _, h, _ => by cases h; exact ⟨rfl, rfl⟩
  | d :: ds, _, h, e => by
    cases h with
    | cons h1 h2 =>
      rw [List.all_cons, Bool.and_eq_true] at e
      obtain ⟨i1, i2⟩ := strs_in (x := x) h2 e.2
      cases d with
      | str y =>
        cases dp_str h1
        refine ⟨by rw [List.all_cons, i1]; rfl, ?_⟩
        unfold inV at i2 ⊢
        rw [List.any_cons, i2, List.any_cons]
        rfl
      | _ => exact nomatch e.1
theorem d_in : Does2 K (rIn K false) gIn := by
  intro Hi H x y c d e Q s hx hy hg q
  cases c with
  | str z =>
    cases d with
    | tuple ds =>
      have hg' : (if ds.all isS = true then some (PyData.bool (ds.any (sameS z))) else none) = some e := hg
      split at hg'
      · rename_i hc
        cases hg'
        obtain ⟨a, xs, rfl, ha, hxs⟩ := dp_tup hy
        cases dp_str hx
        obtain ⟨i1, i2⟩ := strs_in (K := K) (x := z) hxs hc
        refine ⟨a, xs, rfl, .inr (sm_t s ha), rfl, i1, ?_⟩
        rw [if_neg Bool.false_ne_true, i2]
        exact q _ Hi H (.refl s) (.bl _)
      · cases hg'
    | _ => exact nomatch hg
  | _ => exact nomatch hg
theorem d_notIn : Does2 K (rIn K true) gNotIn := by
  intro Hi H x y c d e Q s hx hy hg q
  cases c with
  | str z =>
    cases d with
    | tuple ds =>
      have hg' : (if ds.all isS = true then some (PyData.bool (!ds.any (sameS z))) else none) = some e := hg
      split at hg'
      · rename_i hc
        cases hg'
        obtain ⟨a, xs, rfl, ha, hxs⟩ := dp_tup hy
        cases dp_str hx
        obtain ⟨i1, i2⟩ := strs_in (K := K) (x := z) hxs hc
        refine ⟨a, xs, rfl, .inr (sm_t s ha), rfl, i1, ?_⟩
        rw [if_pos rfl, i2]
        exact q _ Hi H (.refl s) (.bl _)
      · cases hg'
    | _ => exact nomatch hg
  | _ => exact nomatch hg
theorem d_len : DoesC1 K (fun xs H Q => ∃ p ys, xs = [.ref p] ∧ (SqL K H p ys ∨ SqT K H p ys) ∧ Q (.int ys.length) H) gLen := by
  intro Hi H x c e Q s hx hg q
  cases c with
  | list ds =>
    cases (show some (PyData.int ds.length) = some e from hg)
    obtain ⟨a, xs, rfl, ha, hxs⟩ := dp_lst hx
    refine ⟨a, xs, rfl, .inl (Same.seq s ha), ?_⟩
    rw [dpa_len hxs]
    exact q _ Hi H (.refl s) (.int _)
  | tuple ds =>
    cases (show some (PyData.int ds.length) = some e from hg)
    obtain ⟨a, xs, rfl, ha, hxs⟩ := dp_tup hx
    refine ⟨a, xs, rfl, .inr (sm_t s ha), ?_⟩
    rw [dpa_len hxs]
    exact q _ Hi H (.refl s) (.int _)
  | _ => exact nomatch hg
theorem d_tupleOf : DoesC1 K (fun xs H Q => ∃ p ys, xs = [.ref p] ∧ ((SqL K H p ys ∧ ∀ l, H l = none → Q (.ref l) (upd H l (.tup ys))) ∨ (SqT K H p ys ∧ Q (.ref p) H))) gTupleOf := by
  intro Hi H x c e Q s hx hg q
  cases c with
  | list ds =>
    cases (show some (PyData.tuple ds) = some e from hg)
    obtain ⟨a, xs, rfl, ha, hxs⟩ := dp_lst hx
    exact ⟨a, xs, rfl, .inl ⟨Same.seq s ha, fun l hl => q _ _ _ (.new s hl) (.tup (.of upd_same) (dpa_mono (same_new (Same.free s hl) _) _ _ hxs))⟩⟩
  | tuple ds =>
    cases (show some (PyData.tuple ds) = some e from hg)
    obtain ⟨a, xs, rfl, ha, hxs⟩ := dp_tup hx
    exact ⟨a, xs, rfl, .inr ⟨sm_t s ha, q _ Hi H (.refl s) (.tup ha hxs)⟩⟩
  | _ => exact nomatch hg
theorem bools_dpa {H : Hp} : ∀ {ds : List PyData} {vs : List V} {bs : List Bool}, DpAll K H vs ds → bools ds = some bs → vs = bs.map V.bl
  | [], _, _, h, e => by
    cases h
    cases (show some ([] : List Bool) = some _ from e)
    rfl
  | d :: ds, _, _, h, e => by
    cases h with
    | cons h1 h2 =>
      cases d with
      | bool b =>
        obtain ⟨bs, hb, e⟩ := Option.bind_eq_some_iff.mp (show (bools ds).bind (fun bs => some (b :: bs)) = some _ from e)
        cases e
        rw [dp_bl h1, bools_dpa h2 hb]
        rfl
      | _ => exact nomatch e
theorem d_all : DoesC1 K (rAll K) gAll := by
  intro Hi H x c e Q s hx hg q
  cases c with
  | list ds =>
    obtain ⟨bs, hb, e2⟩ := Option.bind_eq_some_iff.mp (show (bools ds).bind (fun bs => some (PyData.bool (bs.all id))) = some e from hg)
    cases e2
    obtain ⟨a, xs, rfl, ha, hxs⟩ := dp_lst hx
    have e2 := bools_dpa (K := K) hxs hb
    subst e2
    exact ⟨a, bs, rfl, Same.seq s ha, q _ Hi H (.refl s) (.bl _)⟩
  | _ => exact nomatch hg
theorem d_max : DoesC2 K (fun xs H Q => ∃ i j, xs = [.int i, .int j] ∧ Q (.int (if j > i then j else i)) H) gMax := by
  intro Hi H x y c d e Q s hx hy hg q
  cases c with
  | int i =>
    cases d with
    | int j =>
      cases (show some (PyData.int (if j > i then j else i)) = some e from hg)
      exact ⟨i, j, by rw [dp_int hx, dp_int hy], q _ Hi H (.refl s) (.int _)⟩
    | _ => exact nomatch hg
  | _ => exact nomatch hg
theorem d_min : DoesC2 K (fun xs H Q => ∃ i j, xs = [.int i, .int j] ∧ Q (.int (if j < i then j else i)) H) gMin := by
  intro Hi H x y c d e Q s hx hy hg q
  cases c with
  | int i =>
    cases d with
    | int j =>
      cases (show some (PyData.int (if j < i then j else i)) = some e from hg)
      exact ⟨i, j, by rw [dp_int hx, dp_int hy], q _ Hi H (.refl s) (.int _)⟩
    | _ => exact nomatch hg
  | _ => exact nomatch hg
theorem d_intOf : DoesC1 K (fun xs H Q => (∃ i, xs = [.int i] ∧ Q (.int i) H) ∨ ∃ k, xs = [.bl k] ∧ Q (.int (if k then 1 else 0)) H) gIntOf := by
  intro Hi H x c e Q s hx hg q
  cases c with
  | int i =>
    cases (show some (PyData.int i) = some e from hg)
    exact .inl ⟨i, by rw [dp_int hx], q _ Hi H (.refl s) (.int _)⟩
  | bool b =>
    cases (show some (PyData.int (if b then 1 else 0)) = some e from hg)
    exact .inr ⟨b, by rw [dp_bl hx], q _ Hi H (.refl s) (.int _)⟩
  | _ => exact nomatch hg
/-- a value's type -/
def tyD : PyData → String
  | .none => "NoneType"
  | .bool _ => "bool"
  | .int _ => "int"
  | .str _ => "str"
  | .list _ => "list"
  | .tuple _ => "tuple"
  | .dict _ => "dict"
theorem ty_of {H : Hp} {x : V} {d : PyData} (h : Dp K H x d) : TyX K H x (.type (tyD d)) := by
  cases h with
  | non => exact .base .non
  | bl b => exact .base (.bl b)
  | int i => exact .base (.int i)
  | str x => exact .base (.str x)
  | lst hs _ =>
    rcases hs with (h | ⟨o, h⟩) | ⟨o, _, _, h, c, _⟩
    · exact .base (.lst h)
    · exact .base (.frz h)
    · exact .kList h c
  | tup hs _ =>
    rcases hs with (h | ⟨o, h⟩) | ⟨o, _, _, h, c, _⟩
    · exact .base (.tup h)
    · exact .fTuple h
    · exact .kTuple h c
theorem kit_tup : ∀ d : PyData, (∀ kvs, d ≠ .dict kvs) → kitB (tyD d) "tuple" = some (isTup d)
  | .none, _ => by decide +kernel
  | .bool _, _ => by show kitB "bool" "tuple" = some false; decide +kernel
  | .int _, _ => by show kitB "int" "tuple" = some false; decide +kernel
  | .str _, _ => by show kitB "str" "tuple" = some false; decide +kernel
  | .list _, _ => by show kitB "list" "tuple" = some false; decide +kernel
  | .tuple _, _ => by show kitB "tuple" "tuple" = some true; decide +kernel
  | .dict kvs, h => absurd rfl (h kvs)
theorem kit_lst : ∀ d : PyData, (∀ kvs, d ≠ .dict kvs) → kitB (tyD d) "list" = some (isLst d)
  | .none, _ => by decide +kernel
  | .bool _, _ => by show kitB "bool" "list" = some false; decide +kernel
  | .int _, _ => by show kitB "int" "list" = some false; decide +kernel
  | .str _, _ => by show kitB "str" "list" = some false; decide +kernel
  | .list _, _ => by show kitB "list" "list" = some true; decide +kernel
  | .tuple _, _ => by show kitB "tuple" "list" = some false; decide +kernel
  | .dict kvs, h => absurd rfl (h kvs)
theorem no_dict {H : Hp} {x : V} {d : PyData} (h : Dp K H x d) : ∀ kvs, d ≠ .dict kvs := by
  intro kvs e
  subst e
  cases h
theorem gIsTup_eq {d e : PyData} (h : ∀ kvs, d ≠ .dict kvs) (hg : gIsTup d = some e) : e = .bool (isTup d) := by
  cases d with
  | dict kvs => exact absurd rfl (h kvs)
  | _ => cases hg; rfl
theorem gIsLst_eq {d e : PyData} (h : ∀ kvs, d ≠ .dict kvs) (hg : gIsLst d = some e) : e = .bool (isLst d) := by
  cases d with
  | dict kvs => exact absurd rfl (h kvs)
  | _ => cases hg; rfl
end
end DL

namespace DL
open PySem PySem.Spec PyProof.Rows L2

/-! ### 6. expressions -/
section
variable {S : Type} {X : Cx} {O : Ow S} {a b c : Expr} {pos : Pos} {fa fb fc : FE S}
theorem bind_some {α β : Type} {o : Option α} {f : α → Option β} {y : β} (h : o.bind f = some y) : ∃ x, o = some x ∧ f x = some y := Option.bind_eq_some_iff.mp h

theorem pd_var (i : Nat) {x : Str} (hN : X.N[i]? = some x := by rfl) (hv : Vis X.env.scope x := by first | exact Or.inl rfl | exact Or.inr (Or.inl rfl) | exact Or.inr (Or.inr rfl)) (hd : (x == ("__debug__" : Str)) = false := by decide)
    (hcd : (x == ("__classdict__" : Str)) = false := by decide) : PE X (.Name x pos) (tD X.K O (fVar i)) :=
  pe_w (pv i hN hv hd hcd) fun σ H Q ⟨D, s, Hi, d, E, sm, A, e, q⟩ => by
    have e' : D[i]? = some (some d) := by
      have e1 : (D[i]?).getD none = some d := e
      cases h : D[i]? with
      | none => rw [h] at e1; cases e1
      | some o => rw [h] at e1; exact congrArg some e1
    obtain ⟨v, hv, hd⟩ := E.get i d e'
    exact ⟨v, hv, q v Hi H (.refl sm) hd⟩
theorem pd_int {i : Int} {j} : PE X (.Constant (.int i) j pos) (tD X.K O (fC (.int i))) := pe_w pe_int fun σ H Q ⟨D, s, Hi, d, E, sm, A, e, q⟩ => by
  cases e; exact q _ Hi H (.refl sm) (.int i)
theorem pd_str {x : Str} {j} : PE X (.Constant (.str x) j pos) (tD X.K O (fC (.str x))) := pe_w pe_str fun σ H Q ⟨D, s, Hi, d, E, sm, A, e, q⟩ => by
  cases e; exact q _ Hi H (.refl sm) (.str x)
theorem pd_bl {x : Bool} {j} : PE X (.Constant (.bool x) j pos) (tD X.K O (fC (.bool x))) := pe_w pe_bl fun σ H Q ⟨D, s, Hi, d, E, sm, A, e, q⟩ => by
  cases e; exact q _ Hi H (.refl sm) (.bl x)
theorem pd_non {j} : PE X (.Constant .none j pos) (tD X.K O (fC .none)) := pe_w pe_non fun σ H Q ⟨D, s, Hi, d, E, sm, A, e, q⟩ => by
  cases e; exact q _ Hi H (.refl sm) .non

theorem w_bin {r : R2} {g : PyData → PyData → Option PyData} (hg : Does2 X.K r g) : ∀ σ H Q, tD X.K O (fBin g fa fb) σ H Q → tOp r (tD X.K O fa) (tD X.K O fb) σ H Q := by
  rintro σ H Q ⟨D, s, Hi, e, E, sm, A, h, q⟩
  obtain ⟨c, hc, h⟩ := bind_some h
  obtain ⟨d, hd, h⟩ := bind_some h
  refine ⟨D, s, Hi, c, E, sm, A, hc, fun x Hi1 H1 st1 hx => ?_⟩
  refine ⟨D, s, Hi1, d, E.mono st1.i, st1.s, O.step A st1, hd, fun y Hi2 H2 st2 hy => ?_⟩
  exact hg Hi2 H2 x y c d e Q st2.s (dp_mono st2.i _ _ hx) hy h fun v Hi' H' st hv => q v Hi' H' ((st1.trans st2).trans st) hv
theorem pd_bin {op : Operator} {r : R2} {g} (ho : OpR X (binaryOp op) r) (hg : Does2 X.K r g) (ha : PE X a (tD X.K O fa)) (hb : PE X b (tD X.K O fb)) : PE X (.BinOp a op b pos) (tD X.K O (fBin g fa fb)) := pe_w (pe_op ho ha hb) (w_bin hg)
theorem pd_add (ha : PE X a (tD X.K O fa)) (hb : PE X b (tD X.K O fb)) : PE X (.BinOp a .Add b pos) (tD X.K O (fBin gAdd fa fb)) := pd_bin (op_add.or op_catA) d_add ha hb
theorem pd_sub (ha : PE X a (tD X.K O fa)) (hb : PE X b (tD X.K O fb)) : PE X (.BinOp a .Sub b pos) (tD X.K O (fBin gSub fa fb)) := pd_bin op_sub d_sub ha hb
theorem pd_mul (ha : PE X a (tD X.K O fa)) (hb : PE X b (tD X.K O fb)) : PE X (.BinOp a .Mult b pos) (tD X.K O (fBin gMul fa fb)) := pd_bin op_mul d_mul ha hb
theorem pd_fdiv (ha : PE X a (tD X.K O fa)) (hb : PE X b (tD X.K O fb)) : PE X (.BinOp a .FloorDiv b pos) (tD X.K O (fBin gFdiv fa fb)) := pd_bin op_fdivN d_fdiv ha hb
theorem pd_mod (ha : PE X a (tD X.K O fa)) (hb : PE X b (tD X.K O fb)) : PE X (.BinOp a .Mod b pos) (tD X.K O (fBin gMod fa fb)) := pd_bin op_modN d_mod ha hb
theorem w_un {r : V → Hp → VK → Prop} {g} (hg : Does1 X.K r g) : ∀ σ H Q, tD X.K O (fUn g fa) σ H Q → tUn r (tD X.K O fa) σ H Q := by
  rintro σ H Q ⟨D, s, Hi, e, E, sm, A, h, q⟩
  obtain ⟨c, hc, h⟩ := bind_some h
  refine ⟨D, s, Hi, c, E, sm, A, hc, fun x Hi1 H1 st1 hx => ?_⟩
  exact hg Hi1 H1 x c e Q st1.s hx h fun v Hi' H' st hv => q v Hi' H' (st1.trans st) hv
theorem pd_neg (ha : PE X a (tD X.K O fa)) : PE X (.UnaryOp .USub a pos) (tD X.K O (fUn gNeg fa)) := pe_w (pe_un un_neg ha) (w_un d_neg)
/-! comparisons -/
theorem pd_cmp {op : CmpOp} {r : R2} {g} (ho : OpR X (compareOp op) r) (hg : Does2 X.K r g) (ha : PE X a (tD X.K O fa)) (hb : PE X b (tD X.K O fb)) (hm : behindInMarks op b = false) : PE X (.Compare a [op] [b] pos) (tD X.K O (fBin g fa fb)) := pe_w (pe_cmpR ho ha hb hm) (w_bin hg)
theorem w_tst {t : TE} {f : FE S} (k : ∀ σ H Q, tD X.K O f σ H Q → t σ H Q) : ∀ σ H Q, tDT X.K O (fTst f) σ H Q → tTest t σ H Q := by
  rintro σ H Q ⟨D, s, Hi, e, E, sm, A, h, q⟩
  obtain ⟨c, hc, h⟩ := bind_some h
  refine k σ H _ ⟨D, s, Hi, c, E, sm, A, hc, fun x Hi1 H1 st1 hx => ?_⟩
  cases c with
  | bool z =>
    have hz : z = e := Option.some.inj h
    subst hz
    exact ⟨z, dp_bl hx, q Hi1 H1 st1⟩
  | _ => exact nomatch h
theorem pt_cmpD {op : CmpOp} {r : R2} {g} (ho : OpR X (compareOp op) r) (hg : Does2 X.K r g) (ha : PE X a (tD X.K O fa)) (hb : PE X b (tD X.K O fb)) (hm : behindInMarks op b = false) : PT X (.Compare a [op] [b] pos) (tDT X.K O (fTst (fBin g fa fb))) := pt_w (pt_cmpR ho ha hb hm) (w_tst (w_bin hg))
abbrev pLt : Int → Int → Bool := fun i j => decide (i < j)
abbrev pLe : Int → Int → Bool := fun i j => decide (i ≤ j)
abbrev pGt : Int → Int → Bool := fun i j => decide (j < i)
abbrev pGe : Int → Int → Bool := fun i j => decide (j ≤ i)
theorem pd_lt (ha : PE X a (tD X.K O fa)) (hb : PE X b (tD X.K O fb)) : PE X (.Compare a [.Lt] [b] pos) (tD X.K O (fBin (gCmp pLt) fa fb)) := pd_cmp op_lt d_cmp ha hb (nomark _)
theorem pd_le (ha : PE X a (tD X.K O fa)) (hb : PE X b (tD X.K O fb)) : PE X (.Compare a [.LtE] [b] pos) (tD X.K O (fBin (gCmp pLe) fa fb)) := pd_cmp op_le d_cmp ha hb (nomark _)
theorem pd_gt (ha : PE X a (tD X.K O fa)) (hb : PE X b (tD X.K O fb)) : PE X (.Compare a [.Gt] [b] pos) (tD X.K O (fBin (gCmp pGt) fa fb)) := pd_cmp op_gt d_cmp ha hb (nomark _)
theorem pd_ge (ha : PE X a (tD X.K O fa)) (hb : PE X b (tD X.K O fb)) : PE X (.Compare a [.GtE] [b] pos) (tD X.K O (fBin (gCmp pGe) fa fb)) := pd_cmp op_ge d_cmp ha hb (nomark _)
theorem pd_eq (hu : X.A.units + 200 < cLine) (ha : PE X a (tD X.K O fa)) (hb : PE X b (tD X.K O fb)) : PE X (.Compare a [.Eq] [b] pos) (tD X.K O (fBin gEq fa fb)) := pd_cmp (op_eqG hu) d_eq ha hb (nomark _)
theorem pd_ne (hu : X.A.units + 200 < cLine) (ha : PE X a (tD X.K O fa)) (hb : PE X b (tD X.K O fb)) : PE X (.Compare a [.NotEq] [b] pos) (tD X.K O (fBin gNe fa fb)) := pd_cmp (op_neG hu) d_ne ha hb (nomark _)
theorem td_lt (ha : PE X a (tD X.K O fa)) (hb : PE X b (tD X.K O fb)) : PT X (.Compare a [.Lt] [b] pos) (tDT X.K O (fTst (fBin (gCmp pLt) fa fb))) := pt_cmpD op_lt d_cmp ha hb (nomark _)
theorem td_le (ha : PE X a (tD X.K O fa)) (hb : PE X b (tD X.K O fb)) : PT X (.Compare a [.LtE] [b] pos) (tDT X.K O (fTst (fBin (gCmp pLe) fa fb))) := pt_cmpD op_le d_cmp ha hb (nomark _)
theorem td_gt (ha : PE X a (tD X.K O fa)) (hb : PE X b (tD X.K O fb)) : PT X (.Compare a [.Gt] [b] pos) (tDT X.K O (fTst (fBin (gCmp pGt) fa fb))) := pt_cmpD op_gt d_cmp ha hb (nomark _)
theorem td_ge (ha : PE X a (tD X.K O fa)) (hb : PE X b (tD X.K O fb)) : PT X (.Compare a [.GtE] [b] pos) (tDT X.K O (fTst (fBin (gCmp pGe) fa fb))) := pt_cmpD op_ge d_cmp ha hb (nomark _)
theorem td_eq (hu : X.A.units + 200 < cLine) (ha : PE X a (tD X.K O fa)) (hb : PE X b (tD X.K O fb)) : PT X (.Compare a [.Eq] [b] pos) (tDT X.K O (fTst (fBin gEq fa fb))) := pt_cmpD (op_eqG hu) d_eq ha hb (nomark _)
theorem td_ne (hu : X.A.units + 200 < cLine) (ha : PE X a (tD X.K O fa)) (hb : PE X b (tD X.K O fb)) : PT X (.Compare a [.NotEq] [b] pos) (tDT X.K O (fTst (fBin gNe fa fb))) := pt_cmpD (op_neG hu) d_ne ha hb (nomark _)
theorem td_in (ha : PE X a (tD X.K O fa)) (hb : PE X b (tD X.K O fb)) (hm : behindInMarks .In b = false := by rfl) : PT X (.Compare a [.In] [b] pos) (tDT X.K O (fTst (fBin gIn fa fb))) := pt_cmpD op_in_seq d_in ha hb hm
theorem td_notIn (ha : PE X a (tD X.K O fa)) (hb : PE X b (tD X.K O fb)) (hm : behindInMarks .NotIn b = false := by rfl) : PT X (.Compare a [.NotIn] [b] pos) (tDT X.K O (fTst (fBin gNotIn fa fb))) := pt_cmpD op_notIn_seq d_notIn ha hb hm
/-- a <= b <= c, ints -/
def fChain (p q : Int → Int → Bool) (a b c : FE S) : FE S := fun D s => (a D s).bind fun x => (b D s).bind fun y => (gCmp p x y).bind fun k => (asB k).bind fun k => if k = true then (c D s).bind fun z => gCmp q y z else some (.bool false)
theorem td_chainLe (ha : PE X a (tD X.K O fa)) (hb : PE X b (tD X.K O fb)) (hc : PE X c (tD X.K O fc)) (hm : lastMarks [.LtE, .LtE] [b, c] = false := by with_unfolding_all rfl) :
    PT X (.Compare a [.LtE, .LtE] [b, c] pos) (tDT X.K O (fTst (fChain pLe pLe fa fb fc))) := pt_w (pt_chain op_le op_le ha hb hc hm) (w_tst (by
  rintro σ H Q ⟨D, s, Hi, e, E, sm, A, h, q⟩
  obtain ⟨x, hx, h⟩ := bind_some h
  obtain ⟨y, hy, h⟩ := bind_some h
  obtain ⟨k, hk, h⟩ := bind_some h
  obtain ⟨k2, hk2, h⟩ := bind_some h
  refine ⟨D, s, Hi, x, E, sm, A, hx, fun u Hi1 H1 st1 hu => ?_⟩
  refine ⟨D, s, Hi1, y, E.mono st1.i, st1.s, O.step A st1, hy, fun v Hi2 H2 st2 hv => ?_⟩
  refine d_cmp Hi2 H2 u v x y k _ st2.s (dp_mono st2.i _ _ hu) hv hk fun z Hi3 H3 st3 hz => ?_
  cases k with
  | bool kb =>
    have hz : kb = k2 := Option.some.inj hk2
    subst hz
    refine ⟨kb, dp_bl hz, ?_⟩
    cases kb with
    | true =>
      rw [if_pos rfl] at h ⊢
      obtain ⟨w, hw, h⟩ := bind_some h
      refine ⟨D, s, Hi3, w, E.mono ((st1.trans st2).trans st3).i, st3.s, O.step A ((st1.trans st2).trans st3), hw, fun z2 Hi4 H4 st4 hz2 => ?_⟩
      exact d_cmp Hi4 H4 v z2 y w e _ st4.s (dp_mono (st3.trans st4).i _ _ hv) hz2 h fun z5 Hi5 H5 st5 h5 => q z5 Hi5 H5 (((st1.trans st2).trans (st3.trans st4)).trans st5) h5
    | false =>
      rw [if_neg Bool.false_ne_true] at h ⊢
      cases h
      exact q _ Hi3 H3 ((st1.trans st2).trans st3) (.bl false)
  | _ => exact nomatch hk2))
/-! truth, and, or, not, if -/
theorem td_tru (ha : PE X a (tD X.K O fa)) (he : ∀ whole, isTrue a X.env whole = (do let v ← whole; standAt a.pos; holding [v] (truthy v)) := by intro _; rfl) : PT X a (tDT X.K O (fTru fa)) :=
  pt_w (pt_truth ha he) (by
    rintro σ H Q ⟨D, s, Hi, e, E, sm, A, h, q⟩
    obtain ⟨c, hc, h⟩ := bind_some h
    refine ⟨D, s, Hi, c, E, sm, A, hc, fun x Hi1 H1 st1 hx => ?_⟩
    refine ⟨e, ?_, q Hi1 H1 st1⟩
    cases hx with
    | non => cases h; exact rfl
    | bl b => cases h; exact rfl
    | int i => cases h; exact rfl
    | str x => exact nomatch h
    | @lst a xs ds hs ha =>
      cases (show some (!ds.isEmpty) = some e from h)
      refine .inl ⟨xs, Same.seq st1.s hs, ?_⟩
      cases ha <;> rfl
    | @tup a xs ds hs ha =>
      cases (show some (!ds.isEmpty) = some e from h)
      refine .inr (.inl ⟨xs, sm_t st1.s hs, ?_⟩)
      cases ha <;> rfl)
variable {rest : List Expr} {ta tb tc : FT S}
theorem wd_and (ha : PT X a (tDT X.K O ta)) (hb : PW X (.BoolOp .And (b :: rest) pos) (tDT X.K O tb)) : PW X (.BoolOp .And (a :: b :: rest) pos) (tDT X.K O (fAndT ta tb)) := pw_w (pw_and ha hb) (by
  rintro σ H Q ⟨D, s, Hi, e, E, sm, A, h, q⟩
  obtain ⟨c, hc, h⟩ := bind_some h
  refine ⟨D, s, Hi, c, E, sm, A, hc, fun Hi1 H1 st1 => ?_⟩
  cases c with
  | true =>
    rw [if_pos rfl] at h ⊢
    exact ⟨D, s, Hi1, e, E.mono st1.i, st1.s, O.step A st1, h, fun Hi2 H2 st2 => q Hi2 H2 (st1.trans st2)⟩
  | false =>
    rw [if_neg Bool.false_ne_true] at h ⊢
    cases h
    exact q Hi1 H1 st1)
theorem wd_or (ha : PT X a (tDT X.K O ta)) (hb : PW X (.BoolOp .Or (b :: rest) pos) (tDT X.K O tb)) : PW X (.BoolOp .Or (a :: b :: rest) pos) (tDT X.K O (fOrT ta tb)) := pw_w (pw_or ha hb) (by
  rintro σ H Q ⟨D, s, Hi, e, E, sm, A, h, q⟩
  obtain ⟨c, hc, h⟩ := bind_some h
  refine ⟨D, s, Hi, c, E, sm, A, hc, fun Hi1 H1 st1 => ?_⟩
  cases c with
  | true =>
    rw [if_pos rfl] at h ⊢
    cases h
    exact q Hi1 H1 st1
  | false =>
    rw [if_neg Bool.false_ne_true] at h ⊢
    exact ⟨D, s, Hi1, e, E.mono st1.i, st1.s, O.step A st1, h, fun Hi2 H2 st2 => q Hi2 H2 (st1.trans st2)⟩)
theorem td_not (ha : PT X a (tDT X.K O ta)) : PT X (.UnaryOp .Not a pos) (tDT X.K O (fNotT ta)) := pt_w (pt_not ha) (by
  rintro σ H Q ⟨D, s, Hi, e, E, sm, A, h, q⟩
  obtain ⟨c, hc, h⟩ := bind_some h
  cases h
  exact ⟨D, s, Hi, c, E, sm, A, hc, fun Hi1 H1 st1 => q Hi1 H1 st1⟩)
theorem pd_and (ha : PE X a (tD X.K O fa)) (hb : PE X (.BoolOp .And (b :: rest) pos) (tD X.K O fb)) : PE X (.BoolOp .And (a :: b :: rest) pos) (tD X.K O (fAndV fa fb)) := pe_w (pe_and ha hb) (by
  rintro σ H Q ⟨D, s, Hi, e, E, sm, A, h, q⟩
  obtain ⟨c, hc, h⟩ := bind_some h
  obtain ⟨k, hk, h⟩ := bind_some h
  refine ⟨D, s, Hi, c, E, sm, A, hc, fun x Hi1 H1 st1 hx => ?_⟩
  cases c with
  | bool z =>
    have hz : z = k := Option.some.inj hk
    subst hz
    refine ⟨z, dp_bl hx, ?_⟩
    cases z with
    | true =>
      rw [if_pos rfl] at h ⊢
      exact ⟨D, s, Hi1, e, E.mono st1.i, st1.s, O.step A st1, h, fun v Hi2 H2 st2 => q v Hi2 H2 (st1.trans st2)⟩
    | false =>
      rw [if_neg Bool.false_ne_true] at h ⊢
      cases h
      exact q _ Hi1 H1 st1 (.bl false)
  | _ => exact nomatch hk)
theorem pd_ifE (hc : PT X c (tDT X.K O tc)) (ha : PE X a (tD X.K O fa)) (hb : PE X b (tD X.K O fb)) : PE X (.IfExp c a b pos) (tD X.K O (fIfE tc fa fb)) := pe_w (pe_ifExp hc ha hb) (by
  rintro σ H Q ⟨D, s, Hi, e, E, sm, A, h, q⟩
  obtain ⟨c, hc, h⟩ := bind_some h
  refine ⟨D, s, Hi, c, E, sm, A, hc, fun Hi1 H1 st1 => ?_⟩
  cases c with
  | true =>
    rw [if_pos rfl] at h ⊢
    exact ⟨D, s, Hi1, e, E.mono st1.i, st1.s, O.step A st1, h, fun v Hi2 H2 st2 => q v Hi2 H2 (st1.trans st2)⟩
  | false =>
    rw [if_neg Bool.false_ne_true] at h ⊢
    exact ⟨D, s, Hi1, e, E.mono st1.i, st1.s, O.step A st1, h, fun v Hi2 H2 st2 => q v Hi2 H2 (st1.trans st2)⟩)
/-! arguments, displays, subscripts -/
variable {es : List Expr} {fas : FA S}
theorem ad_nil : PA X [] (tDA X.K O fNil) := pa_w pa_nil fun σ H Q ⟨D, s, Hi, ds, E, sm, A, e, q⟩ => by
  cases e; exact q _ Hi H (.refl sm) .nil
theorem ad_cons (ha : PE X a (tD X.K O fa)) (hr : PA X es (tDA X.K O fas)) (hs : starEach (a :: es) X.env = (false, eval a X.env) :: starEach es X.env := by rfl) : PA X (a :: es) (tDA X.K O (fCons fa fas)) := pa_w (pa_cons ha hr hs) (by
  rintro σ H Q ⟨D, s, Hi, e, E, sm, A, h, q⟩
  obtain ⟨c, hc, h⟩ := bind_some h
  obtain ⟨ds, hd, h⟩ := bind_some h
  cases h
  refine ⟨D, s, Hi, c, E, sm, A, hc, fun x Hi1 H1 st1 hx => ?_⟩
  exact ⟨D, s, Hi1, ds, E.mono st1.i, st1.s, O.step A st1, hd, fun vs Hi2 H2 st2 hv => q _ Hi2 H2 (st1.trans st2) (.cons (dp_mono st2.i _ _ hx) hv)⟩)
theorem pd_tup {x1} (h : PA X es (tDA X.K O fas)) : PE X (.Tuple es x1 pos) (tD X.K O (fTup fas)) := pe_w (pe_tup h) (by
  rintro σ H Q ⟨D, s, Hi, e, E, sm, A, h, q⟩
  obtain ⟨ds, hc, h⟩ := bind_some h
  refine ⟨D, s, Hi, ds, E, sm, A, hc, fun xs Hi1 H1 st1 hx => ?_⟩
  split at h
  · rename_i hl
    cases h
    refine ⟨by rw [dpa_len hx]; exact hl, fun p hp => q _ _ _ (st1.trans (.new st1.s hp)) (.tup (.of upd_same) (dpa_mono (same_new (Same.free st1.s hp) _) _ _ hx))⟩
  · cases h)
theorem pd_lst (h : PA X es (tDA X.K O fas)) : PE X (.List es pos) (tD X.K O (fLst fas)) := pe_w (pe_lst h) (by
  rintro σ H Q ⟨D, s, Hi, e, E, sm, A, h, q⟩
  obtain ⟨ds, hc, h⟩ := bind_some h
  refine ⟨D, s, Hi, ds, E, sm, A, hc, fun xs Hi1 H1 st1 hx => ?_⟩
  split at h
  · rename_i hl
    cases h
    refine ⟨by rw [dpa_len hx]; exact hl, fun p hp => q _ _ _ (st1.trans (.new st1.s hp)) (.lst (.of upd_same) (dpa_mono (same_new (Same.free st1.s hp) _) _ _ hx))⟩
  · cases h)
theorem pd_ix (ha : PE X a (tD X.K O fa)) (hb : PE X b (tD X.K O fb)) (hs : PlainIx b := by exact fun _ _ => rfl) : PE X (.Subscript a b pos) (tD X.K O (fBin gIx fa fb)) := pe_w (pe_ix ix_seq ha hb hs) (w_bin d_ix)
variable {lo hi : Option Expr} {fl fh : FO S} {p2 : Pos}
theorem od_none : PO X none (tDO X.K O oNone) := po_w po_none fun σ H Q ⟨D, s, Hi, o, E, sm, A, e, q⟩ => by
  cases e; exact q Hi H (.refl sm)
theorem od_some (h : PE X a (tD X.K O fa)) : PO X (some a) (tDO X.K O (oSome fa)) := po_w (po_some h) (by
  rintro σ H Q ⟨D, s, Hi, o, E, sm, A, h, q⟩
  obtain ⟨c, hc, h⟩ := bind_some h
  obtain ⟨i, hi, h⟩ := bind_some h
  cases h
  refine ⟨D, s, Hi, c, E, sm, A, hc, fun x Hi1 H1 st1 hx => ?_⟩
  cases c with
  | int j =>
    have hz : j = i := Option.some.inj hi
    subst hz
    exact ⟨j, dp_int hx, q Hi1 H1 st1⟩
  | _ => exact nomatch hi)
theorem cutV_dpa {K : PySem.W.Frag} {H : Hp} {vs : List V} {ds : List PyData} (h : DpAll K H vs ds) (l u : Option Int) : DpAll K H (cutV vs l u) (cutD ds l u) := by
  unfold cutV cutD
  rw [dpa_len h]
  exact dpa_take _ (dpa_drop _ h)
theorem pd_sl (ha : PE X a (tD X.K O fa)) (hl : PO X lo (tDO X.K O fl)) (hh : PO X hi (tDO X.K O fh)) : PE X (.Subscript a (.Slice lo hi none p2) pos) (tD X.K O (fSl fa fl fh)) := pe_w (pe_slice sl_tupA ha hl hh) (by
  rintro σ H Q ⟨D, s, Hi, e, E, sm, A, h, q⟩
  obtain ⟨c, hc, h⟩ := bind_some h
  obtain ⟨l, hl, h⟩ := bind_some h
  obtain ⟨u, hu, h⟩ := bind_some h
  refine ⟨D, s, Hi, c, E, sm, A, hc, fun x Hi1 H1 st1 hx => ?_⟩
  refine ⟨D, s, Hi1, l, E.mono st1.i, st1.s, O.step A st1, hl, fun Hi2 H2 st2 => ?_⟩
  refine ⟨D, s, Hi2, u, E.mono (st1.trans st2).i, st2.s, O.step A (st1.trans st2), hu, fun Hi3 H3 st3 => ?_⟩
  cases c with
  | tuple ds =>
    cases h
    obtain ⟨p, xs, rfl, hp, hxs⟩ := dp_tup hx
    have st := (st1.trans st2).trans st3
    have m := (st2.trans st3).i
    refine ⟨p, xs, rfl, sm_t (m.trans st3.s) hp, fun w => ?_, fun _ r hr => ?_⟩
    · have z : cutD ds l u = ds := by
        unfold cutD
        rw [← dpa_len hxs, w.1, w.2, List.drop_zero, Nat.sub_zero, dpa_len hxs, List.take_length]
      rw [z] at q
      exact q _ Hi3 H3 st (.tup (sm_t m hp) (dpa_mono m _ _ hxs))
    · exact q _ _ _ (st.trans (.new st3.s hr)) (.tup (.of upd_same) (cutV_dpa (dpa_mono (m.trans (same_new (Same.free st3.s hr) _)) _ _ hxs) l u))
  | _ => exact nomatch h)
/-! calls of built-ins -/
variable {p : Pos} {x : Str} {e : Expr}
theorem w_call1 {r : List V → Hp → VK → Prop} {g} (hg : DoesC1 X.K r g) : ∀ σ H Q, tD X.K O (fUn g fa) σ H Q → tCB r (tCons (tD X.K O fa) tNil) σ H Q := by
  rintro σ H Q ⟨D, s, Hi, e, E, sm, A, h, q⟩
  obtain ⟨c, hc, h⟩ := bind_some h
  refine ⟨D, s, Hi, c, E, sm, A, hc, fun x Hi1 H1 st1 hx => ?_⟩
  exact hg Hi1 H1 x c e Q st1.s hx h fun v Hi' H' st hv => q v Hi' H' (st1.trans st) hv
theorem w_call2 {r : List V → Hp → VK → Prop} {g} (hg : DoesC2 X.K r g) : ∀ σ H Q, tD X.K O (fBin g fa fb) σ H Q → tCB r (tCons (tD X.K O fa) (tCons (tD X.K O fb) tNil)) σ H Q := by
  rintro σ H Q ⟨D, s, Hi, e, E, sm, A, h, q⟩
  obtain ⟨c, hc, h⟩ := bind_some h
  obtain ⟨d, hd, h⟩ := bind_some h
  refine ⟨D, s, Hi, c, E, sm, A, hc, fun x Hi1 H1 st1 hx => ?_⟩
  refine ⟨D, s, Hi1, d, E.mono st1.i, st1.s, O.step A st1, hd, fun y Hi2 H2 st2 hy => ?_⟩
  exact hg Hi2 H2 x y c d e Q st2.s (dp_mono st2.i _ _ hx) hy h fun v Hi' H' st hv => q v Hi' H' ((st1.trans st2).trans st) hv
theorem pd_len (hm : X.mg "len" = none) (ha : PE X a (tD X.K O fa)) (hg : Gl X "len" := by rfl) (he : starEach [a] X.env = (false, eval a X.env) :: starEach [] X.env := by rfl) (hpl : (backTo pos (starEach [] X.env)).any (·.1) = false := by rfl) :
    PE X (.Call (.Name "len" p) [a] [] pos) (tD X.K O (fUn gLen fa)) := pe_w (pe_callB call_len_seq hg hm PySem.boot_len (pa_cons ha pa_nil he) (he := he) (hpl := hpl)) (w_call1 d_len)
theorem pd_all (hc : X.calm = true) (hm : X.mg "all" = none) (ha : PE X a (tD X.K O fa)) (hg : Gl X "all" := by rfl) (he : starEach [a] X.env = (false, eval a X.env) :: starEach [] X.env := by rfl) (hpl : (backTo pos (starEach [] X.env)).any (·.1) = false := by rfl) :
    PE X (.Call (.Name "all" p) [a] [] pos) (tD X.K O (fUn gAll fa)) := pe_w (pe_callB (cr_all hc) hg hm (by decide +kernel) (pa_cons ha pa_nil he) (he := he) (hpl := hpl)) (w_call1 d_all)
theorem pd_tupleOf (hm : X.mg "tuple" = none) (ha : PE X a (tD X.K O fa)) (hg : Gl X "tuple" := by rfl) (he : starEach [a] X.env = (false, eval a X.env) :: starEach [] X.env := by rfl) (hpl : (backTo pos (starEach [] X.env)).any (·.1) = false := by rfl) :
    PE X (.Call (.Name "tuple" p) [a] [] pos) (tD X.K O (fUn gTupleOf fa)) := pe_w (pe_callTy call_tuple_of hg hm (by decide +kernel) (pa_cons ha pa_nil he) (he := he) (hpl := hpl)) (w_call1 d_tupleOf)
theorem pd_intOf (hm : X.mg "int" = none) (ha : PE X a (tD X.K O fa)) (hg : Gl X "int" := by rfl) (he : starEach [a] X.env = (false, eval a X.env) :: starEach [] X.env := by rfl) (hpl : (backTo pos (starEach [] X.env)).any (·.1) = false := by rfl) :
    PE X (.Call (.Name "int" p) [a] [] pos) (tD X.K O (fUn gIntOf fa)) := pe_w (pe_callTy call_int1 hg hm (by decide +kernel) (pa_cons ha pa_nil he) (he := he) (hpl := hpl)) (w_call1 d_intOf)
theorem pd_max (hc : X.calm = true) (hm : X.mg "max" = none) (ha : PE X a (tD X.K O fa)) (hb : PE X b (tD X.K O fb)) (hg : Gl X "max" := by rfl) (he : starEach [a, b] X.env = (false, eval a X.env) :: starEach [b] X.env := by rfl) (he2 : starEach [b] X.env = (false, eval b X.env) :: starEach [] X.env := by rfl)
    (hpl : (backTo pos (starEach [b] X.env)).any (·.1) = false := by rfl) :
    PE X (.Call (.Name "max" p) [a, b] [] pos) (tD X.K O (fBin gMax fa fb)) := pe_w (pe_callB (call_max2 hc) hg hm (by decide +kernel) (pa_cons ha (pa_cons hb pa_nil he2) he) (he := he) (hpl := hpl)) (w_call2 d_max)
theorem pd_min (hc : X.calm = true) (hm : X.mg "min" = none) (ha : PE X a (tD X.K O fa)) (hb : PE X b (tD X.K O fb)) (hg : Gl X "min" := by rfl) (he : starEach [a, b] X.env = (false, eval a X.env) :: starEach [b] X.env := by rfl) (he2 : starEach [b] X.env = (false, eval b X.env) :: starEach [] X.env := by rfl)
    (hpl : (backTo pos (starEach [b] X.env)).any (·.1) = false := by rfl) :
    PE X (.Call (.Name "min" p) [a, b] [] pos) (tD X.K O (fBin gMin fa fb)) := pe_w (pe_callB (call_min2 hc) hg hm (by decide +kernel) (pa_cons ha (pa_cons hb pa_nil he2) he) (he := he) (hpl := hpl)) (w_call2 d_min)
variable {p3 : Pos}
theorem pd_isTup (hm : X.mg "isinstance" = none) (hm2 : X.mg "tuple" = none) (ha : PE X a (tD X.K O fa)) (hg : Gl X "isinstance" := by rfl) (hg2 : Gl X "tuple" := by rfl) (he : starEach [a, .Name "tuple" p3] X.env = (false, eval a X.env) :: starEach [.Name "tuple" p3] X.env := by rfl)
    (he2 : starEach [.Name "tuple" p3] X.env = (false, eval (.Name "tuple" p3) X.env) :: starEach [] X.env := by rfl) (hpl : (backTo pos (starEach [.Name "tuple" p3] X.env)).any (·.1) = false := by rfl) :
    PE X (.Call (.Name "isinstance" p) [a, .Name "tuple" p3] [] pos) (tD X.K O (fUn gIsTup fa)) :=
  pe_w (pe_callB call_isi hg hm (by decide +kernel) (pa_cons ha (pa_cons (pe_bltn (v := .ty "tuple") hg2 hm2 (by decide +kernel) rfl) pa_nil he2) he) (he := he) (hpl := hpl)) (by
    rintro σ H Q ⟨D, s, Hi, e, E, sm, A, h, q⟩
    obtain ⟨c, hc, h⟩ := bind_some h
    refine ⟨D, s, Hi, c, E, sm, A, hc, fun x Hi1 H1 st1 hx => ?_⟩
    have nd := no_dict hx
    cases gIsTup_eq nd h
    exact ⟨x, .ty "tuple", _, _, isTup c, rfl, .ty "tuple", ty_of (dp_mono st1.s _ _ hx), kit_ty (kit_tup c nd), q _ Hi1 H1 st1 (.bl _)⟩)
theorem pd_isLst (hm : X.mg "isinstance" = none) (hm2 : X.mg "list" = none) (ha : PE X a (tD X.K O fa)) (hg : Gl X "isinstance" := by rfl) (hg2 : Gl X "list" := by rfl) (he : starEach [a, .Name "list" p3] X.env = (false, eval a X.env) :: starEach [.Name "list" p3] X.env := by rfl)
    (he2 : starEach [.Name "list" p3] X.env = (false, eval (.Name "list" p3) X.env) :: starEach [] X.env := by rfl) (hpl : (backTo pos (starEach [.Name "list" p3] X.env)).any (·.1) = false := by rfl) :
    PE X (.Call (.Name "isinstance" p) [a, .Name "list" p3] [] pos) (tD X.K O (fUn gIsLst fa)) :=
  pe_w (pe_callB call_isi hg hm (by decide +kernel) (pa_cons ha (pa_cons (pe_bltn (v := .ty "list") hg2 hm2 (by decide +kernel) rfl) pa_nil he2) he) (he := he) (hpl := hpl)) (by
    rintro σ H Q ⟨D, s, Hi, e, E, sm, A, h, q⟩
    obtain ⟨c, hc, h⟩ := bind_some h
    refine ⟨D, s, Hi, c, E, sm, A, hc, fun x Hi1 H1 st1 hx => ?_⟩
    have nd := no_dict hx
    cases gIsLst_eq nd h
    exact ⟨x, .ty "list", _, _, isLst c, rfl, .ty "list", ty_of (dp_mono st1.s _ _ hx), kit_ty (kit_lst c nd), q _ Hi1 H1 st1 (.bl _)⟩)
end
end DL

namespace DL
open PySem PySem.Spec PyProof.Rows L2

/-! ### 7. comprehensions -/
theorem Step.take {Hi0 H0 Hi H : Hp} {l : Addr} {o : HO} (x : Step Hi0 H0 Hi H) (h0 : H0 l = none) (h : H l = some o) (hi : Hi l = none) : Step Hi0 H0 (upd Hi l o) H := by
  refine ⟨x.i.trans (same_new hi o), x.h, fun b u e => ?_, fun b h1 h2 => ?_⟩
  · by_cases hb : b = l
    · subst hb; rw [upd_same] at e; rw [h]; exact e
    · rw [upd_ne hb] at e; exact x.s b u e
  · have hb : b ≠ l := fun z => h1 (z ▸ h0)
    rw [upd_ne hb]; exact x.n b h1 h2
theorem Step.mut {Hi0 H0 Hi H : Hp} {l : Addr} {o : HO} (x : Step Hi0 H0 Hi H) (h0 : H0 l = none) (hi : Hi l = none) : Step Hi0 H0 Hi (upd H l o) := by
  refine ⟨x.i, fun b u e => ?_, fun b u e => ?_, x.n⟩
  · rw [upd_ne (ne_of_none e h0)]; exact x.h b u e
  · rw [upd_ne (ne_of_none e hi)]; exact x.s b u e
section
variable {S : Type} {K : PySem.W.Frag} {O : Ow S} {i : Nat} {t : FT S} {e : FE S} {Hi1 H1 : Hp} {D : Ds} {s : S} {xs ys : List PyData} {L : Addr} {σ : L2.St}
/-- how a comprehension stands at its k-th turn -/
def CompAt (K : PySem.W.Frag) (Hi1 H1 : Hp) (i : Nat) (t : FT S) (e : FE S) (D : Ds) (s : S) (xs ys : List PyData) (L : Addr) (k : Nat) (H' : Hp) : Prop :=
  ∃ (Hi' : Hp) (acc : List V) (accd zs : List PyData), Step Hi1 H1 Hi' H' ∧ Hi' L = none ∧ H' L = some (.lst acc) ∧ DpAll K Hi' acc accd ∧ acc.length ≤ k ∧ compL i t e (xs.drop k) D s = some zs ∧ accd ++ zs = ys
theorem compAt_start (sm : Same Hi1 H1) (hL : H1 L = none) (h : compL i t e xs D s = some ys) : CompAt K Hi1 H1 i t e D s xs ys L 0 (upd H1 L (.lst [])) :=
  ⟨Hi1, [], [], ys, (Step.refl sm).mut hL (Same.free sm hL), Same.free sm hL, upd_same, .nil, Nat.zero_le _, h, rfl⟩
theorem compAt_turn {x : PyData} {v : V} {k : Nat} {H' : Hp} (hL : H1 L = none) (E : EnvD K Hi1 σ D) (A : O.At Hi1 H1 σ s) (fr : O.fr i = true) (hx : xs[k]? = some x) (hv : Dp K Hi1 v x) (hk : k < sizeLine) (h : CompAt K Hi1 H1 i t e D s xs ys L k H') :
    wipe ((wipe σ [i]).set i (some v)) [i] = wipe σ [i] ∧ tDT K O t ((wipe σ [i]).set i (some v)) H' fun b H3 => if b = true then tD K O e ((wipe σ [i]).set i (some v)) H3 fun y H4 => ∃ acc, H4 L = some (.lst acc) ∧ acc.length < sizeLine ∧ CompAt K Hi1 H1 i t e D s xs ys L (k + 1) (upd H4 L (.lst (acc ++ [y])))
      else CompAt K Hi1 H1 i t e D s xs ys L (k + 1) H3 := by
  have ew : (wipe σ [i]).set i (some v) = σ.set i (some v) := by
    show (σ.set i none).set i (some v) = _
    rw [List.set_set]
  rw [ew]
  refine ⟨by show (σ.set i (some v)).set i none = σ.set i none; rw [List.set_set], ?_⟩
  obtain ⟨Hi', acc, accd, zs, st, n1, n2, ha, hl, hc, he⟩ := h
  have hd : xs.drop k = x :: xs.drop (k + 1) := by
    have hlt := (List.getElem?_eq_some_iff.mp hx)
    obtain ⟨h1, h2⟩ := hlt
    rw [List.drop_eq_getElem_cons h1, h2]
  rw [hd] at hc
  obtain ⟨b, hb, hc⟩ := bind_some hc
  have E' : EnvD K Hi' (σ.set i (some v)) (D.set i (some x)) := (E.mono st.i).set (dp_mono st.i _ _ hv)
  have A' : O.At Hi' H' (σ.set i (some v)) s := O.set (O.step A st) fr
  refine ⟨D.set i (some x), s, Hi', b, E', st.s, A', hb, fun Hi3 H3 st3 => ?_⟩
  have n3 : Hi3 L = none := st3.n L (by rw [n2]; exact fun z => nomatch z) n1
  cases b with
  | true =>
    rw [if_pos rfl] at hc
    refine iteT ?_
    obtain ⟨y, hy, hc⟩ := bind_some hc
    obtain ⟨ws, hw, hc⟩ := bind_some hc
    have hc' : y :: ws = zs := Option.some.inj hc
    refine ⟨D.set i (some x), s, Hi3, y, E'.mono st3.i, st3.s, O.step A' st3, hy, fun u Hi4 H4 st4 hu => ?_⟩
    have st' := (st.trans st3).trans st4
    have n4 : Hi4 L = none := st4.n L (by rw [st3.h _ _ n2]; exact fun z => nomatch z) n3
    refine ⟨acc, st4.h _ _ (st3.h _ _ n2), Nat.lt_of_le_of_lt hl hk, Hi4, acc ++ [u], accd ++ [y], ws, st'.mut hL n4, n4, upd_same, dpa_append (dpa_mono (st3.trans st4).i _ _ ha) (.cons hu .nil), ?_, hw, ?_⟩
    · rw [List.length_append]; exact Nat.succ_le_succ hl
    · rw [← he, ← hc', List.append_assoc]; rfl
  | false =>
    rw [if_neg Bool.false_ne_true] at hc
    refine iteF ?_
    exact ⟨Hi3, acc, accd, zs, st.trans st3, n3, st3.h _ _ n2, dpa_mono st3.i _ _ ha, Nat.le_succ_of_le hl, hc, he⟩
theorem compAt_end {H' : Hp} {Q : VK} (hL : H1 L = none) (h : CompAt K Hi1 H1 i t e D s xs ys L xs.length H') (q : ∀ v Hi' H', Step Hi1 H1 Hi' H' → Dp K Hi' v (.list ys) → Q v H') : Q (.ref L) H' := by
  obtain ⟨Hi', acc, accd, zs, st, n1, n2, ha, hl, hc, he⟩ := h
  rw [List.drop_length] at hc
  cases (show some ([] : List PyData) = some zs from hc)
  rw [List.append_nil] at he
  subst he
  exact q _ _ _ (st.take hL n2 n1) (.lst (.of upd_same) (dpa_mono (same_new n1 _) _ _ ha))
end
section
variable {S : Type} {X : Cx} {O : Ow S} {elt tg iter : Expr} {ifs : List Expr} {scope : Scope} {nm : Str} {i : Nat} {pos : Pos} {fi fe : FE S} {ft : FT S}
theorem w_lcT : ∀ σ H Q, O.fr i = true → tD X.K O (fComp itemsT i fi ft fe) σ H Q → tLc (iTup X.K (tD X.K O fi)) (gName i) (tDT X.K O ft) (tD X.K O fe) [i] σ H Q := by
  rintro σ H Q fr ⟨D, s, Hi, d, E, sm, A, h, q⟩
  obtain ⟨c, hc, h⟩ := bind_some h
  obtain ⟨xs, hx, h⟩ := bind_some h
  split at h
  · rename_i hz
    obtain ⟨ys, hy, h⟩ := bind_some h
    cases h
    refine ⟨D, s, Hi, c, E, sm, A, hc, fun x Hi1 H1 st1 hv => ?_⟩
    cases c with
    | tuple ds =>
      have exs := Option.some.inj hx
      subst exs
      obtain ⟨a, vs, rfl, ha, hvs⟩ := dp_tup hv
      refine ⟨a, rfl, ⟨vs, sm_t st1.s ha⟩, fun L hL => ?_⟩
      refine lc_tup (K := X.K) (a := a) (xs := vs) (CompAt X.K Hi1 H1 i ft fe D s ds ys L) (compAt_start st1.s hL hy) (fun k H' _ ⟨Hi', _, _, _, st, _⟩ => sm_t st.h (sm_t st1.s ha)) (fun k v H' hk hC => ?_) (fun H' hC => ?_)
      · obtain ⟨x, hx, hd⟩ := dpa_get2 hvs hk
        exact compAt_turn hL (E.mono st1.i) (O.step A st1) fr hx hd (Nat.lt_of_lt_of_le (List.getElem?_eq_some_iff.mp hx).1 hz) hC
      · rw [dpa_len hvs] at hC
        exact compAt_end hL hC fun v Hi' H' st hv => q v Hi' H' (st1.trans st) hv
    | _ => exact nomatch hx
  · cases h
theorem w_lcL : ∀ σ H Q, O.fr i = true → tD X.K O (fComp itemsL i fi ft fe) σ H Q → tLc (iList X.K (tD X.K O fi)) (gName i) (tDT X.K O ft) (tD X.K O fe) [i] σ H Q := by
  rintro σ H Q fr ⟨D, s, Hi, d, E, sm, A, h, q⟩
  obtain ⟨c, hc, h⟩ := bind_some h
  obtain ⟨xs, hx, h⟩ := bind_some h
  split at h
  · rename_i hz
    obtain ⟨ys, hy, h⟩ := bind_some h
    cases h
    refine ⟨D, s, Hi, c, E, sm, A, hc, fun x Hi1 H1 st1 hv => ?_⟩
    cases c with
    | list ds =>
      have exs := Option.some.inj hx
      subst exs
      obtain ⟨a, vs, rfl, ha, hvs⟩ := dp_lst hv
      refine ⟨a, rfl, ⟨vs, Same.seq st1.s ha⟩, fun L hL => ?_⟩
      refine lc_list (K := X.K) (a := a) (xs := vs) (CompAt X.K Hi1 H1 i ft fe D s ds ys L) (compAt_start st1.s hL hy) (fun k H' _ ⟨Hi', _, _, _, st, _⟩ => Same.seq st.h (Same.seq st1.s ha)) (fun k v H' hk hC => ?_) (fun H' hC => ?_)
      · obtain ⟨x, hx, hd⟩ := dpa_get2 hvs hk
        exact compAt_turn hL (E.mono st1.i) (O.step A st1) fr hx hd (Nat.lt_of_lt_of_le (List.getElem?_eq_some_iff.mp hx).1 hz) hC
      · rw [dpa_len hvs] at hC
        exact compAt_end hL hC fun v Hi' H' st hv => q v Hi' H' (st1.trans st) hv
    | _ => exact nomatch hx
  · cases h
theorem rangeL_get {lo : Int} {n k : Nat} (h : k < n) : (rangeL lo n)[k]? = some (.int (lo + (k : Int))) := by
  unfold rangeL
  rw [List.getElem?_map, List.getElem?_range h]
  rfl
theorem rangeL_len {lo : Int} {n : Nat} : (rangeL lo n).length = n := by unfold rangeL; rw [List.length_map, List.length_range]
theorem w_lcR : ∀ σ H Q, O.fr i = true → tD X.K O (fComp range1 i fi ft fe) σ H Q → tLc (iRng1 (tCons (tD X.K O fi) tNil)) (gName i) (tDT X.K O ft) (tD X.K O fe) [i] σ H Q := by
  rintro σ H Q fr ⟨D, s, Hi, d, E, sm, A, h, q⟩
  obtain ⟨c, hc, h⟩ := bind_some h
  obtain ⟨xs, hx, h⟩ := bind_some h
  split at h
  · rename_i hz
    obtain ⟨ys, hy, h⟩ := bind_some h
    cases h
    refine ⟨D, s, Hi, c, E, sm, A, hc, fun x Hi1 H1 st1 hv => ?_⟩
    cases c with
    | int j =>
      have hx' : (if okR j then some (rangeL 0 j.toNat) else none) = some xs := hx
      split at hx'
      · rename_i hr
        have ex : rangeL 0 j.toNat = xs := Option.some.inj hx'
        subst ex
        rw [rangeL_len] at hz
        refine ⟨j, by rw [dp_int hv], hr.1, hr.2, fun L hL => ?_⟩
        refine lc_range (lo := 0) (n := j.toNat) (CompAt X.K Hi1 H1 i ft fe D s (rangeL 0 j.toNat) ys L) (compAt_start st1.s hL hy) (fun k H' hk hC => ?_) (fun H' hC => ?_)
        · exact compAt_turn hL (E.mono st1.i) (O.step A st1) fr (rangeL_get hk) (.int _) (Nat.lt_of_lt_of_le hk hz) hC
        · have hC2 : CompAt X.K Hi1 H1 i ft fe D s (rangeL 0 j.toNat) ys L (rangeL 0 j.toNat).length H' := by
            rw [rangeL_len]
            exact hC
          exact compAt_end hL hC2 fun v Hi' H' st hv => q v Hi' H' (st1.trans st) hv
      · cases hx'
    | _ => exact nomatch hx
  · cases h
theorem pts_d1 {c : Expr} (h : PT X c (tDT X.K O ft)) : PTs X [c] (tDT X.K O ft) := pts_one h
theorem pts_d0 : PTs X [] (tDT X.K O fYes) := ⟨fun pins s σ H Q I ⟨D, s', Hi, b, E, sm, A, e, q⟩ => by
  cases e
  exact (pts_nil (X := X)).run pins s σ H Q I (q Hi H (.refl sm))⟩
theorem pd_lcT (hc : X.calm = true) (hN : X.N.Nodup) (hi : PE X iter (tD X.K O fi)) (ok : BlkOk X.N X.env.scope scope [(nm, i)]) (fr : O.fr i = true)
    (hg : ∀ (s : Shared) (H : Hp) (C : Addr) (cl : List (Str × Addr)) (fp : List Addr), PG (X.blk s H scope (compEnvC scope cl C X.env) fp) tg (gName i)) (ht : ∀ (s : Shared) (H : Hp) (C : Addr) (cl : List (Str × Addr)) (fp : List Addr), PTs (X.blk s H scope (compEnvC scope cl C X.env) fp) ifs (tDT X.K O ft))
    (he : ∀ (s : Shared) (H : Hp) (C : Addr) (cl : List (Str × Addr)) (fp : List Addr), PE (X.blk s H scope (compEnvC scope cl C X.env) fp) elt (tD X.K O fe)) (hs : ∀ x, foldedSetIterable iter X.env x = pure x := by intro _; rfl) :
    PE X (.ListComp elt [⟨tg, iter, ifs, 0⟩] scope pos) (tD X.K O (fComp itemsT i fi ft fe)) := pe_w (pe_lc hc hN (pi_tup hi) ok hg ht he hs) fun σ H Q => w_lcT σ H Q fr
theorem pd_lcL (hc : X.calm = true) (hN : X.N.Nodup) (hi : PE X iter (tD X.K O fi)) (ok : BlkOk X.N X.env.scope scope [(nm, i)]) (fr : O.fr i = true)
    (hg : ∀ (s : Shared) (H : Hp) (C : Addr) (cl : List (Str × Addr)) (fp : List Addr), PG (X.blk s H scope (compEnvC scope cl C X.env) fp) tg (gName i)) (ht : ∀ (s : Shared) (H : Hp) (C : Addr) (cl : List (Str × Addr)) (fp : List Addr), PTs (X.blk s H scope (compEnvC scope cl C X.env) fp) ifs (tDT X.K O ft))
    (he : ∀ (s : Shared) (H : Hp) (C : Addr) (cl : List (Str × Addr)) (fp : List Addr), PE (X.blk s H scope (compEnvC scope cl C X.env) fp) elt (tD X.K O fe)) (hs : ∀ x, foldedSetIterable iter X.env x = pure x := by intro _; rfl) :
    PE X (.ListComp elt [⟨tg, iter, ifs, 0⟩] scope pos) (tD X.K O (fComp itemsL i fi ft fe)) := pe_w (pe_lc hc hN (pi_list hi) ok hg ht he hs) fun σ H Q => w_lcL σ H Q fr
theorem pd_lcR {p pos2 : Pos} {a : Expr} (hc : X.calm = true) (hN : X.N.Nodup) (hm : X.mg "range" = none) (hi : PE X a (tD X.K O fi)) (ok : BlkOk X.N X.env.scope scope [(nm, i)]) (fr : O.fr i = true)
    (hg : ∀ (s : Shared) (H : Hp) (C : Addr) (cl : List (Str × Addr)) (fp : List Addr), PG (X.blk s H scope (compEnvC scope cl C X.env) fp) tg (gName i)) (ht : ∀ (s : Shared) (H : Hp) (C : Addr) (cl : List (Str × Addr)) (fp : List Addr), PTs (X.blk s H scope (compEnvC scope cl C X.env) fp) ifs (tDT X.K O ft))
    (he : ∀ (s : Shared) (H : Hp) (C : Addr) (cl : List (Str × Addr)) (fp : List Addr), PE (X.blk s H scope (compEnvC scope cl C X.env) fp) elt (tD X.K O fe)) (hgl : Gl X "range" := by rfl) (hsa : starEach [a] X.env = [(false, eval a X.env)] := by rfl)
    (hs : ∀ x, foldedSetIterable (.Call (.Name "range" p) [a] [] pos2) X.env x = pure x := by intro _; rfl) :
    PE X (.ListComp elt [⟨tg, .Call (.Name "range" p) [a] [] pos2, ifs, 0⟩] scope pos) (tD X.K O (fComp range1 i fi ft fe)) := pe_w (pe_lc hc hN (pi_range1 hgl hm (pa_cons hi pa_nil (by rw [hsa]; rfl)) hsa) ok hg ht he hs) fun σ H Q => w_lcR σ H Q fr
end
end DL

namespace DL
open PySem PySem.Spec PyProof.Rows L2

/-! ### 8. the codes of a number's figures: [ord(x) for x in str(n)] -/
section
variable {S : Type} {X : Cx} {O : Ow S} {nm : Str} {scope : Scope} {i : Nat} {p p1 p2 p3 p4 pos : Pos} {a : Expr} {fa : FE S}
theorem codes_get {x : Str} {k c : Nat} (h : x.cps[k]? = some c) : ((codesOf x).map PyData.int)[k]? = some (.int (c : Int)) := by
  unfold codesOf
  rw [List.map_map, List.getElem?_map, Array.getElem?_toList, h]
  rfl
theorem codes_len {x : Str} : (codesOf x).length = x.cps.size := by unfold codesOf; rw [List.length_map, Array.length_toList]
theorem lc_str {x : Str} {g : TG} {tt : TT} {te : TE} {vs : List Nat} {σ : L2.St} {H1 : Hp} {D : Addr} {Qd : Hp → Prop} (Pv : Nat → Hp → Prop) (h0 : Pv 0 (upd H1 D (.lst [])))
    (hs : ∀ (i c : Nat) H, x.cps[i]? = some c → Pv i H → g (.str ⟨#[c]⟩) (wipe σ vs) H fun σ2 H2 => wipe σ2 vs = wipe σ vs ∧ tt σ2 H2 fun b H3 =>
      if b = true then te σ2 H3 fun y H4 => ∃ acc, H4 D = some (.lst acc) ∧ acc.length < sizeLine ∧ Pv (i + 1) (upd H4 D (.lst (acc ++ [y]))) else Pv (i + 1) H3) (hd : ∀ H, Pv x.cps.size H → Qd H) :
    ∃ W : Nat → Nat → Hp → Prop, (∃ m, W 0 m (upd H1 D (.lst []))) ∧ ∀ i m H, W i m H →
      ((Its x).stop i H ∧ Qd H) ∨ ((Its x).go i H ∧ ∃ Nx : Hp → Prop, (∀ H', Nx H' → ∃ m', m' < m ∧ W (i + 1) m' H') ∧ ∀ v H', (Its x).yld i H v H' → g v (wipe σ vs) H' fun σ2 H2 => wipe σ2 vs = wipe σ vs ∧ tt σ2 H2 fun b H3 =>
        if b = true then te σ2 H3 fun y H4 => ∃ acc, H4 D = some (.lst acc) ∧ acc.length < sizeLine ∧ Nx (upd H4 D (.lst (acc ++ [y]))) else Nx H3) := by
  refine ⟨fun i m H => m = x.cps.size - i ∧ i ≤ x.cps.size ∧ Pv i H, ⟨x.cps.size, by simp, Nat.zero_le _, h0⟩, ?_⟩
  rintro i m H ⟨rfl, hi, p⟩
  by_cases hlt : i < x.cps.size
  · refine .inr ⟨hlt, Pv (i + 1), fun H' p' => ⟨x.cps.size - (i + 1), by omega, rfl, hlt, p'⟩, fun v H' y => ?_⟩
    obtain ⟨e, c, hc, rfl⟩ := y
    subst e
    exact hs i c _ hc p
  · have e : i = x.cps.size := by omega
    subst e
    exact .inl ⟨Nat.le_refl _, hd H p⟩
/-- how it stands at the k-th sign -/
def CodesAt (Hi1 H1 : Hp) (x : Str) (L : Addr) (k : Nat) (H' : Hp) : Prop :=
  ∃ (Hi' : Hp) (acc : List V), Step Hi1 H1 Hi' H' ∧ Hi' L = none ∧ H' L = some (.lst acc) ∧ acc = ((codesOf x).take k).map V.int
def fCodes (i : Nat) (a : FE S) : FE S := fun D s => if i < D.length then (a D s).bind gCodes else none
theorem w_codes : ∀ σ H Q, tD X.K O (fCodes i fa) σ H Q →
    tLc (iStr (tCB (fun xs H Q => ∃ i, xs = [.int i] ∧ i.natAbs.log2 < 1920 ∧ Q (.str (toString i)) H) (tCons (tD X.K O fa) tNil))) (gName i) tYes (tCB (fun xs H Q => ∃ x, xs = [.str x] ∧ x.length = 1 ∧ Q (.int (x.cps.getD 0 0 : Nat)) H) (tCons (tVar i) tNil)) [i] σ H Q := by
  rintro σ H Q ⟨D, s, Hi, d, E, sm, A, h, q⟩
  have hi : i < D.length := by
    unfold fCodes at h
    split at h
    · assumption
    · cases h
  unfold fCodes at h
  rw [if_pos hi] at h
  obtain ⟨c, hc, h⟩ := bind_some h
  refine ⟨D, s, Hi, c, E, sm, A, hc, fun v Hi1 H1 st1 hv => ?_⟩
  cases c with
  | int n =>
    have h' : (if n.natAbs.log2 < 1920 ∧ (codesOf (toString n : Str)).length ≤ sizeLine then some (PyData.list ((codesOf (toString n : Str)).map PyData.int)) else none) = some d := h
    split at h'
    · rename_i hb
      have ed := Option.some.inj h'
      refine ⟨n, by rw [dp_int hv], hb.1, toString n, rfl, fun L hL => ?_⟩
      refine lc_str (x := toString n) (CodesAt Hi1 H1 (toString n) L) ⟨Hi1, [], (Step.refl st1.s).mut hL (Same.free st1.s hL), Same.free st1.s hL, upd_same, rfl⟩ (fun k c H' hk hC => ?_) (fun H' hC => ?_)
      · obtain ⟨Hi', acc, st, n1, n2, ea⟩ := hC
        have ew : ((wipe σ [i]).set i (some (V.str ⟨#[c]⟩))) = σ.set i (some (V.str ⟨#[c]⟩)) := by
          show (σ.set i none).set i _ = _
          rw [List.set_set]
        have hlk : k < (codesOf (toString n : Str)).length := by
          rw [codes_len]
          exact (Array.getElem?_eq_some_iff.mp hk).1
        show wipe ((wipe σ [i]).set i (some (V.str ⟨#[c]⟩))) [i] = wipe σ [i] ∧ _
        rw [ew]
        refine ⟨by show (σ.set i _).set i none = σ.set i none; rw [List.set_set], ?_⟩
        dsimp only [tYes]
        rw [if_pos rfl]
        refine ⟨.str ⟨#[c]⟩, ?_, ⟨#[c]⟩, rfl, rfl, acc, n2, ?_, Hi', acc ++ [V.int (c : Int)], (st.mut hL n1), n1, upd_same, ?_⟩
        · rw [List.getElem?_set_self (by rw [E.len]; exact hi)]
        · rw [ea, List.length_map, List.length_take]
          exact Nat.lt_of_le_of_lt (Nat.min_le_left _ _) (Nat.lt_of_lt_of_le hlk hb.2)
        · have hg : (codesOf (toString n : Str))[k]? = some (c : Int) := by
            unfold codesOf
            rw [List.getElem?_map, Array.getElem?_toList, hk]
            rfl
          have ht : (codesOf (toString n : Str)).take (k + 1) = (codesOf (toString n : Str)).take k ++ [(c : Int)] := by
            rw [List.take_add_one, hg]
            rfl
          rw [ht, List.map_append, ← ea]
          rfl
      · obtain ⟨Hi', acc, st, n1, n2, ea⟩ := hC
        rw [← codes_len, List.take_length] at ea
        refine q _ (upd Hi' L (.lst acc)) H' (st1.trans (st.take hL n2 n1)) ?_
        rw [← ed]
        refine .lst (.of upd_same) ?_
        rw [ea]
        exact ints_dpa _
    · cases h'
  | _ => exact nomatch h
/-- [ord(nm) for nm in str(a)] -/
theorem pd_codes (hc : X.calm = true) (hN : X.N.Nodup) (ha : PE X a (tD X.K O fa)) (ok : BlkOk X.N X.env.scope scope [(nm, i)]) (hms : X.mg "str" = none) (hmo : X.mg "ord" = none) (hi : X.N[i]? = some nm)
    (hl : Loc scope nm) (hd : (nm == ("__debug__" : Str)) = false := by decide) (hcd : (nm == ("__classdict__" : Str)) = false := by decide)
    (hg : Gl X "str" := by rfl) (hs1 : starEach [a] X.env = (false, eval a X.env) :: starEach [] X.env := by rfl) (hpl : (backTo p4 (starEach [] X.env)).any (·.1) = false := by rfl)
    (hgo : ∀ (s : Shared) (H : Hp) (C : Addr) (cl : List (Str × Addr)) (fp : List Addr), Gl (X.blk s H scope (compEnvC scope cl C X.env) fp) "ord" := by intro _ _ _ _ _; rfl)
    (hso : ∀ env : Env, starEach [.Name nm p2] env = (false, eval (.Name nm p2) env) :: starEach [] env := by intro _; rfl) (hpo : ∀ env : Env, (backTo pos (starEach [] env)).any (·.1) = false := by intro _; rfl)
    (hgn : ∀ (s : Shared) (H : Hp) (C : Addr) (cl : List (Str × Addr)) (fp : List Addr), PG (X.blk s H scope (compEnvC scope cl C X.env) fp) (.Name nm p3) (gName i))
    (hv : ∀ (s : Shared) (H : Hp) (C : Addr) (cl : List (Str × Addr)) (fp : List Addr), PE (X.blk s H scope (compEnvC scope cl C X.env) fp) (.Name nm p2) (tVar i))
    (hs : ∀ x, foldedSetIterable (.Call (.Name "str" p1) [a] [] p4) X.env x = pure x := by intro _; rfl) {q1 q2 : Pos} :
    PE X (.ListComp (.Call (.Name "ord" q1) [.Name nm p2] [] pos) [⟨.Name nm p3, .Call (.Name "str" p1) [a] [] p4, [], 0⟩] scope q2) (tD X.K O (fCodes i fa)) :=
  pe_w (pe_lc (own := [(nm, i)]) (g := gName i) (tt := tYes) hc hN (pi_str (pe_callTy call_str_int hg hms (by decide +kernel) (pa_cons ha pa_nil hs1) (he := hs1) (hpl := hpl))) ok hgn (fun _ _ _ _ _ => pts_nil)
    (fun s H C cl fp => pe_callB call_ord (hgo s H C cl fp) hmo (by decide +kernel) (pa_cons (hv s H C cl fp) pa_nil (hso _)) (he := hso _) (hpl := hpo _)) hs) w_codes
end

/-! ### 9. statements -/
section
variable {S : Type} {X : Cx} {O : Ow S} {K : PySem.W.Frag} {pos : Pos}
theorem wants_mono {Hi Hi2 : Hp} {E : Ends} {r : Res S} (m : Same Hi Hi2) (h : wants K O Hi E r) : wants K O Hi2 E r := by
  cases r with
  | nx D' s' => exact fun σ' Hi' H' a b c d => h σ' Hi' H' (m.trans a) b c d
  | ct D' s' => exact fun σ' Hi' H' a b c d => h σ' Hi' H' (m.trans a) b c d
  | bk D' s' => exact fun σ' Hi' H' a b c d => h σ' Hi' H' (m.trans a) b c d
  | rt d s' => exact h
  | ro s' => exact h
theorem pss_dnil : PSs X [] (tDS X.K O sNil) := pss_w pss_nil (by
  rintro E σ H ⟨D, s, Hi, r, En, sm, A, h, q⟩
  cases h
  exact q σ Hi H (Same.refl _) En sm A)
variable {st : Stmt} {rest : List Stmt} {f g : FS S}
theorem pss_d (h1 : PS X st (tDS X.K O f)) (h2 : PSs X rest (tDS X.K O g)) : PSs X (st :: rest) (tDS X.K O (sSeq f g)) := pss_w (pss_cons h1 h2) (by
  rintro E σ H ⟨D, s, Hi, r, En, sm, A, h, q⟩
  cases hf : f D s with
  | none =>
    unfold sSeq at h
    rw [hf] at h
    cases h
  | some r1 =>
    refine ⟨D, s, Hi, r1, En, sm, A, hf, ?_⟩
    unfold sSeq at h
    rw [hf] at h
    cases r1 with
    | nx D1 s1 =>
      intro σ' Hi' H' a b c d
      exact ⟨D1, s1, Hi', r, b, c, d, h, wants_mono a q⟩
    | ct D1 s1 => cases h; exact q
    | bk D1 s1 => cases h; exact q
    | rt d s1 => cases h; exact q
    | ro s1 => cases h; exact q)
theorem pss_d1 (h1 : PS X st (tDS X.K O f)) : PSs X [st] (tDS X.K O f) := pss_one h1
variable {e : Expr} {fe : FE S} {ft : FT S}
theorem psd_ret (h : PE X e (tD X.K O fe)) : PS X (.Return (some e) pos) (tDS X.K O (sRet fe)) := ps_w (ps_ret h) (by
  rintro E σ H ⟨D, s, Hi, r, En, sm, A, h, q⟩
  obtain ⟨d, hd, h⟩ := bind_some h
  cases h
  exact ⟨D, s, Hi, d, En, sm, A, hd, fun v Hi' H' st hv => q σ v Hi' H' st.s (O.step A st) hv⟩)
theorem psd_if {c : Expr} {a b : List Stmt} (hc : PT X c (tDT X.K O ft)) (ha : PSs X a (tDS X.K O f)) (hb : PSs X b (tDS X.K O g)) : PS X (.If c a b pos) (tDS X.K O (sIf ft f g)) := ps_w (ps_if hc ha hb) (by
  rintro E σ H ⟨D, s, Hi, r, En, sm, A, h, q⟩
  obtain ⟨k, hk, h⟩ := bind_some h
  refine ⟨D, s, Hi, k, En, sm, A, hk, fun Hi' H' st => ?_⟩
  cases k with
  | true => exact iteT ⟨D, s, Hi', r, En.mono st.i, st.s, O.step A st, h, wants_mono st.i q⟩
  | false => exact iteF ⟨D, s, Hi', r, En.mono st.i, st.s, O.step A st, h, wants_mono st.i q⟩)
theorem w_asg {i : Nat} {te : TE} (fr : O.fr i = true) (k : ∀ σ H Q, tD X.K O fe σ H Q → te σ H Q) : ∀ E σ H, tDS X.K O (sAsg i fe) E σ H → tAsg te (gName i) E σ H := by
  rintro E σ H ⟨D, s, Hi, r, En, sm, A, h, q⟩
  obtain ⟨d, hd, h⟩ := bind_some h
  cases h
  exact k σ H _ ⟨D, s, Hi, d, En, sm, A, hd, fun v Hi' H' st hv => q (σ.set i (some v)) Hi' H' st.i ((En.mono st.i).set hv) st.s (O.set (O.step A st) fr)⟩
theorem psd_set {i : Nat} {x : Str} {pos' : Pos} (hN : X.N.Nodup) (hi : X.N[i]? = some x) (hx : Loc X.env.scope x) (fr : O.fr i = true) (he : PE X e (tD X.K O fe)) (hs : swapsWith e (some (.Name x pos')) pos.line X.env = pure false := by rfl) (hf : X.fn x = true ∨ X.env.scope.names.lookup x = some .local := by first | exact .inl rfl | exact .inr rfl | assumption) :
    PS X (.Assign [.Name x pos'] e pos) (tDS X.K O (sAsg i fe)) := ps_w (ps_set hN hi hx he hs hf) (w_asg fr fun _ _ _ h => h)

/-! loops -/
def TgtOk (K : PySem.W.Frag) (O : Ow S) (g : TG) (st : PyData → Ds → Option Ds) : Prop :=
  ∀ (v : V) (d : PyData) (σ : L2.St) (D D1 : Ds) (Hi H : Hp) (s : S) (Q : L2.St → Hp → Prop), Dp K Hi v d → EnvD K Hi σ D → Same Hi H → O.At Hi H σ s → st d D = some D1 → (∀ σ', EnvD K Hi σ' D1 → O.At Hi H σ' s → Q σ' H) → g v σ H Q
theorem tgt1 {i : Nat} (fr : O.fr i = true) : TgtOk K O (gName i) (st1 i) := by
  intro v d σ D D1 Hi H s Q hv E sm A h q
  cases h
  exact q _ (E.set hv) (O.set A fr)
theorem tgt2 {i j : Nat} (fi : O.fr i = true) (fj : O.fr j = true) : TgtOk K O (gTup K 2 (gCons (gName i) (gCons (gName j) gNil))) (st2 i j) := by
  intro v d σ D D1 Hi H s Q hv E sm A h q
  match d, h with
  | .tuple [x, y], h =>
    cases h
    obtain ⟨a, xs, rfl, ha, hxs⟩ := dp_tup hv
    cases hxs with
    | cons h1 h2 =>
      cases h2 with
      | cons h2 h3 =>
        cases h3
        exact ⟨a, _, rfl, sm_t sm ha, rfl, _, _, rfl, _, _, rfl, rfl, q _ ((E.set h1).set h2) (O.set (O.set A fi) fj)⟩
/-- how a for stands at its k-th turn -/
def ForAt (K : PySem.W.Frag) (O : Ow S) (Hi1 : Hp) (st : PyData → Ds → Option Ds) (b : FS S) (xs : List PyData) (r : Res S) (k : Nat) (σ : L2.St) (H : Hp) : Prop :=
  ∃ D s Hi, Same Hi1 Hi ∧ EnvD K Hi σ D ∧ Same Hi H ∧ O.At Hi H σ s ∧ forL st b (xs.drop k) D s = some r
theorem forAt_turn {Hi1 : Hp} {sto : PyData → Ds → Option Ds} {b : FS S} {xs : List PyData} {r : Res S} {k : Nat} {σ : L2.St} {H : Hp} {g : TG} {E : Ends} {x : PyData} {v : V} (tg : TgtOk K O g sto) (hx : xs[k]? = some x) (hv : Dp K Hi1 v x) (q : wants K O Hi1 E r) (h : ForAt K O Hi1 sto b xs r k σ H) :
    g v σ H fun σ2 H2 => tDS K O b { E with nx := ForAt K O Hi1 sto b xs r (k + 1), ct := ForAt K O Hi1 sto b xs r (k + 1), bk := E.nx } σ2 H2 := by
  obtain ⟨D, s, Hi, m, En, sm, A, hr⟩ := h
  have hd : xs.drop k = x :: xs.drop (k + 1) := by
    obtain ⟨h1, h2⟩ := List.getElem?_eq_some_iff.mp hx
    rw [List.drop_eq_getElem_cons h1, h2]
  rw [hd] at hr
  obtain ⟨D1, h1, hr⟩ := bind_some hr
  refine tg v x σ D D1 Hi H s _ (dp_mono m _ _ hv) En sm A h1 fun σ' E' A' => ?_
  cases hb : b D1 s with
  | none => rw [hb] at hr; cases hr
  | some rb =>
    rw [hb] at hr
    refine ⟨D1, s, Hi, rb, E', sm, A', hb, ?_⟩
    cases rb with
    | nx D2 s2 => exact fun σ2 Hi2 H2 m2 e2 s2' a2 => ⟨D2, s2, Hi2, m.trans m2, e2, s2', a2, hr⟩
    | ct D2 s2 => exact fun σ2 Hi2 H2 m2 e2 s2' a2 => ⟨D2, s2, Hi2, m.trans m2, e2, s2', a2, hr⟩
    | bk D2 s2 => cases hr; exact fun σ2 Hi2 H2 m2 e2 s2' a2 => q σ2 Hi2 H2 (m.trans m2) e2 s2' a2
    | rt d s2 => cases hr; exact q
    | ro s2 => cases hr; exact q
theorem forAt_end {Hi1 : Hp} {sto : PyData → Ds → Option Ds} {b : FS S} {xs : List PyData} {r : Res S} {σ : L2.St} {H : Hp} {E : Ends} (q : wants K O Hi1 E r) (h : ForAt K O Hi1 sto b xs r xs.length σ H) : E.nx σ H := by
  obtain ⟨D, s, Hi, m, En, sm, A, hr⟩ := h
  rw [List.drop_length] at hr
  cases hr
  exact q σ Hi H m En sm A
variable {tg iter : Expr} {body : List Stmt} {gt : TG} {sto : PyData → Ds → Option Ds}
theorem psd_forT (hc : X.calm = true) (hp : PassesOwn (model X.prog X.w) X.A X.env X.xe) (hi : PE X iter (tD X.K O fe)) (hg : PG X tg gt) (ht : TgtOk X.K O gt sto) (hb : PSs X body (tDS X.K O f)) (hs : ∀ x, foldedSetIterable iter X.env x = pure x := by intro _; rfl) :
    PS X (.For tg iter body [] pos) (tDS X.K O (sFor itemsT sto fe f)) := ps_w (ps_for hp hc (pi_tup hi) hg hb hs) (by
  rintro E σ H ⟨D, s, Hi, r, En, sm, A, h, q⟩
  obtain ⟨d, hd, h⟩ := bind_some h
  obtain ⟨xs, hx, h⟩ := bind_some h
  refine ⟨D, s, Hi, d, En, sm, A, hd, fun v Hi1 H1 st1 hv => ?_⟩
  cases d with
  | tuple ds =>
    have exs := Option.some.inj hx
    subst exs
    obtain ⟨a, vs, rfl, ha, hvs⟩ := dp_tup hv
    have q1 := wants_mono st1.i q
    refine ⟨a, rfl, ⟨vs, sm_t st1.s ha⟩, for_tup (K := X.K) (a := a) (xs := vs) (ForAt X.K O Hi1 sto f ds r) ⟨D, s, Hi1, Same.refl _, En.mono st1.i, st1.s, O.step A st1, h⟩ (fun k σ' H' _ hk => ?_) (fun k x σ' H' hk hF => ?_) (fun σ' H' hF => ?_)⟩
    · obtain ⟨_, _, Hi', m, _, sm', _⟩ := hk
      exact sm_t (m.trans sm') ha
    · obtain ⟨y, hy, hd⟩ := dpa_get2 hvs hk
      exact forAt_turn ht hy hd q1 hF
    · rw [dpa_len hvs] at hF
      exact forAt_end q1 hF
  | _ => exact nomatch hx)
theorem psd_forL (hc : X.calm = true) (hp : PassesOwn (model X.prog X.w) X.A X.env X.xe) (hi : PE X iter (tD X.K O fe)) (hg : PG X tg gt) (ht : TgtOk X.K O gt sto) (hb : PSs X body (tDS X.K O f)) (hs : ∀ x, foldedSetIterable iter X.env x = pure x := by intro _; rfl) :
    PS X (.For tg iter body [] pos) (tDS X.K O (sFor itemsL sto fe f)) := ps_w (ps_for hp hc (pi_list hi) hg hb hs) (by
  rintro E σ H ⟨D, s, Hi, r, En, sm, A, h, q⟩
  obtain ⟨d, hd, h⟩ := bind_some h
  obtain ⟨xs, hx, h⟩ := bind_some h
  refine ⟨D, s, Hi, d, En, sm, A, hd, fun v Hi1 H1 st1 hv => ?_⟩
  cases d with
  | list ds =>
    have exs := Option.some.inj hx
    subst exs
    obtain ⟨a, vs, rfl, ha, hvs⟩ := dp_lst hv
    have q1 := wants_mono st1.i q
    refine ⟨a, rfl, ⟨vs, Same.seq st1.s ha⟩, for_list (K := X.K) (a := a) (xs := vs) (ForAt X.K O Hi1 sto f ds r) ⟨D, s, Hi1, Same.refl _, En.mono st1.i, st1.s, O.step A st1, h⟩ (fun k σ' H' _ hk => ?_) (fun k x σ' H' hk hF => ?_) (fun σ' H' hF => ?_)⟩
    · obtain ⟨_, _, Hi', m, _, sm', _⟩ := hk
      exact Same.seq (m.trans sm') ha
    · obtain ⟨y, hy, hd⟩ := dpa_get2 hvs hk
      exact forAt_turn ht hy hd q1 hF
    · rw [dpa_len hvs] at hF
      exact forAt_end q1 hF
  | _ => exact nomatch hx)
theorem psd_forR {p pos2 : Pos} {a : Expr} (hc : X.calm = true) (hp : PassesOwn (model X.prog X.w) X.A X.env X.xe) (hm : X.mg "range" = none) (hi : PE X a (tD X.K O fe)) (hg : PG X tg gt) (ht : TgtOk X.K O gt sto) (hb : PSs X body (tDS X.K O f)) (hgl : Gl X "range" := by rfl) (hsa : starEach [a] X.env = [(false, eval a X.env)] := by rfl)
    (hs : ∀ x, foldedSetIterable (.Call (.Name "range" p) [a] [] pos2) X.env x = pure x := by intro _; rfl) :
    PS X (.For tg (.Call (.Name "range" p) [a] [] pos2) body [] pos) (tDS X.K O (sFor range1 sto fe f)) := ps_w (ps_for hp hc (pi_range1 hgl hm (pa_cons hi pa_nil (by rw [hsa]; rfl)) hsa) hg hb hs) (by
  rintro E σ H ⟨D, s, Hi, r, En, sm, A, h, q⟩
  obtain ⟨d, hd, h⟩ := bind_some h
  obtain ⟨xs, hx, h⟩ := bind_some h
  refine ⟨D, s, Hi, d, En, sm, A, hd, fun v Hi1 H1 st1 hv => ?_⟩
  cases d with
  | int j =>
    have hx' : (if okR j then some (rangeL 0 j.toNat) else none) = some xs := hx
    split at hx'
    · rename_i hr
      have ex : rangeL 0 j.toNat = xs := Option.some.inj hx'
      subst ex
      have q1 := wants_mono st1.i q
      refine ⟨j, by rw [dp_int hv], hr.1, hr.2, for_range (lo := 0) (n := j.toNat) (ForAt X.K O Hi1 sto f (rangeL 0 j.toNat) r) ⟨D, s, Hi1, Same.refl _, En.mono st1.i, st1.s, O.step A st1, h⟩ (fun k σ' H' hk hF => ?_) (fun σ' H' hF => ?_)⟩
      · exact forAt_turn ht (rangeL_get hk) (.int _) q1 hF
      · have hF2 : ForAt X.K O Hi1 sto f (rangeL 0 j.toNat) r (rangeL 0 j.toNat).length σ' H' := by
          rw [rangeL_len]
          exact hF
        exact forAt_end q1 hF2
    · cases hx'
  | _ => exact nomatch hx)
theorem psd_forR2 {p pos2 : Pos} {a b : Expr} {fe2 : FE S} (hc : X.calm = true) (hp : PassesOwn (model X.prog X.w) X.A X.env X.xe) (hm : X.mg "range" = none) (hi : PE X a (tD X.K O fe)) (hi2 : PE X b (tD X.K O fe2)) (hg : PG X tg gt) (ht : TgtOk X.K O gt sto) (hb : PSs X body (tDS X.K O f)) (hgl : Gl X "range" := by rfl)
    (hsa : starEach [a, b] X.env = [(false, eval a X.env), (false, eval b X.env)] := by rfl) (hsb : starEach [b] X.env = [(false, eval b X.env)] := by rfl)
    (hs : ∀ x, foldedSetIterable (.Call (.Name "range" p) [a, b] [] pos2) X.env x = pure x := by intro _; rfl) :
    PS X (.For tg (.Call (.Name "range" p) [a, b] [] pos2) body [] pos) (tDS X.K O (sFor2 sto fe fe2 f)) := ps_w (ps_for hp hc (pi_range2 hgl hm (pa_cons hi (pa_cons hi2 pa_nil (by rw [hsb]; rfl)) (by rw [hsa, hsb])) hsa hsb) hg hb hs) (by
  rintro E σ H ⟨D, s, Hi, r, En, sm, A, h, q⟩
  obtain ⟨d, hd, h⟩ := bind_some h
  obtain ⟨d2, hd2, h⟩ := bind_some h
  obtain ⟨xs, hx, h⟩ := bind_some h
  refine ⟨D, s, Hi, d, En, sm, A, hd, fun v Hi0 H0 st0 hv => ?_⟩
  refine ⟨D, s, Hi0, d2, En.mono st0.i, st0.s, O.step A st0, hd2, fun v2 Hi1 H1 st01 hv2 => ?_⟩
  have st1 := st0.trans st01
  cases d with
  | int i =>
    cases d2 with
    | int j =>
      have hx' : (if okR i ∧ okR j then some (rangeL i (j - i).toNat) else none) = some xs := hx
      split at hx'
      · rename_i hr
        have ex : rangeL i (j - i).toNat = xs := Option.some.inj hx'
        subst ex
        have q1 := wants_mono st1.i q
        refine ⟨i, j, by rw [dp_int hv, dp_int hv2], ⟨hr.1.1, hr.1.2, hr.2.1, hr.2.2⟩, for_range (lo := i) (n := (j - i).toNat) (ForAt X.K O Hi1 sto f (rangeL i (j - i).toNat) r) ⟨D, s, Hi1, Same.refl _, En.mono st1.i, st1.s, O.step A st1, h⟩ (fun k σ' H' hk hF => ?_) (fun σ' H' hF => ?_)⟩
        · exact forAt_turn ht (rangeL_get hk) (.int _) q1 hF
        · have hF2 : ForAt X.K O Hi1 sto f (rangeL i (j - i).toNat) r (rangeL i (j - i).toNat).length σ' H' := by
            rw [rangeL_len]
            exact hF
          exact forAt_end q1 hF2
      · cases hx'
    | _ => exact nomatch hx
  | _ => exact nomatch hx)
/-- a while of at most N turns -/
theorem psd_while {c : Expr} (N : Nat) (hp : PassesOwn (model X.prog X.w) X.A X.env X.xe) (hc : PT X c (tDT X.K O ft)) (hb : PSs X body (tDS X.K O f)) : PS X (.While c body [] pos) (tDS X.K O (whileN ft f N)) := ps_w (ps_while hp hc hb) (by
  rintro E σ H ⟨D, s, Hi1, r, En, sm, A, h, q⟩
  refine ⟨fun m σ H => ∃ D s Hi, Same Hi1 Hi ∧ EnvD X.K Hi σ D ∧ Same Hi H ∧ O.At Hi H σ s ∧ whileN ft f m D s = some r, ⟨N, D, s, Hi1, Same.refl _, En, sm, A, h⟩, ?_⟩
  rintro m σ H ⟨D, s, Hi, mm, En, sm, A, h⟩
  cases m with
  | zero => exact nomatch h
  | succ m =>
    obtain ⟨k, hk, h⟩ := bind_some h
    refine ⟨D, s, Hi, k, En, sm, A, hk, fun Hi' H' st => ?_⟩
    cases k with
    | false =>
      cases h
      exact iteF (q σ Hi' H' (mm.trans st.i) (En.mono st.i) st.s (O.step A st))
    | true =>
      refine iteT ⟨fun σ H => ∃ D s Hi, Same Hi1 Hi ∧ EnvD X.K Hi σ D ∧ Same Hi H ∧ O.At Hi H σ s ∧ whileN ft f m D s = some r, fun σ' H' h' => ⟨m, Nat.lt_succ_self m, h'⟩, ?_⟩
      rw [if_pos rfl] at h
      cases hb : f D s with
      | none => rw [hb] at h; cases h
      | some rb =>
        rw [hb] at h
        refine ⟨D, s, Hi', rb, En.mono st.i, st.s, O.step A st, hb, ?_⟩
        cases rb with
        | nx D2 s2 => exact fun σ2 Hi2 H2 m2 e2 s2' a2 => ⟨D2, s2, Hi2, (mm.trans st.i).trans m2, e2, s2', a2, h⟩
        | ct D2 s2 => exact fun σ2 Hi2 H2 m2 e2 s2' a2 => ⟨D2, s2, Hi2, (mm.trans st.i).trans m2, e2, s2', a2, h⟩
        | bk D2 s2 => cases h; exact fun σ2 Hi2 H2 m2 e2 s2' a2 => q σ2 Hi2 H2 ((mm.trans st.i).trans m2) e2 s2' a2
        | rt d s2 => cases h; exact q
        | ro s2 => cases h; exact q)
end
end DL

namespace DL
open PySem PySem.Spec PyProof.Rows L2

/-! ### 10. defs -/
/-- a pure def's promise: F of the arguments' data -/
def spD (K : PySem.W.Frag) (n : Nat) (F : List PyData → Option PyData) : Sp := fun vs H Q _ =>
  ∃ (Hi : Hp) (ds : List PyData) (d : PyData), Same Hi H ∧ DpAll K Hi vs ds ∧ ds.length = n ∧ F ds = some d ∧ ∀ v Hi' H', Step Hi H Hi' H' → Dp K Hi' v d → Q v H'
section
variable {P : Program} {w : World} {K : PySem.W.Frag} {mg : Str → Option Value} {base : Heap}
theorem start_env {Hi : Hp} {N : List Str} {vs : List V} {ds : List PyData} (h : DpAll K Hi vs ds) : EnvD K Hi (L2.start N vs) (startD N.length ds) := by
  have hl := dpa_len h
  refine ⟨by unfold L2.start startD; simp [hl], fun i d e => ?_⟩
  unfold startD at e
  unfold L2.start
  by_cases hi : i < ds.length
  · rw [List.getElem?_append_left (by rw [List.length_map]; exact hi), List.getElem?_map] at e
    cases hd : ds[i]? with
    | none => rw [hd] at e; cases e
    | some d' =>
      rw [hd] at e
      cases e
      obtain ⟨v, hv, hp⟩ := dpa_get h hd
      refine ⟨v, ?_, hp⟩
      rw [List.getElem?_append_left (by rw [List.length_map, hl]; exact hi), List.getElem?_map, hv]
      rfl
  · rw [List.getElem?_append_right (by rw [List.length_map]; omega), List.getElem?_replicate] at e
    split at e <;> cases e
/-- THE RULE for a pure def -/
theorem fn_d {x qual : Str} {st : Stmt} {f : Addr} {fd : FuncData} {N ps : List Str} {k : Nat} {fb : FS Unit} (F : Fun K x qual st f fd) (S : FnScope N ps (defScope st))
    (hb : ∀ (cdv : Value) (A : Around) (outer : List Env) (s : Shared) (H : Hp) (E : XK) (Hi : Hp), Room k (A.deeper (envOfC qual (defScope st) s.heap.objs.size f cdv)) →
      PSs (cxOf CX0 P w K mg base N qual (defScope st) f cdv A outer s H E).nox (defBody st) (tDS K (ow0 Hi H) fb)) : FnOk P w K mg base CX0 (k + 1) f fd ps (spD K ps.length (runF N.length fb)) := by
  refine F.ok S (fun vs H Q E ⟨Hi, ds, d, _, hv, hl, _⟩ => by rw [dpa_len hv]; exact hl) (fun cdv A outer s H vs Q E hr ⟨Hi, ds, d, sm, hv, hl, hF, q⟩ => ⟨_, hb cdv A outer s H E Hi hr, ?_⟩)
  unfold runF at hF
  split at hF
  · rename_i d' u hd
    cases hF
    exact ⟨startD N.length ds, (), Hi, _, start_env hv, sm, Step.refl sm, hd, fun σ' v Hi' H' _ a b => q v Hi' H' a b⟩
  · rename_i D' u hd
    cases hF
    exact ⟨startD N.length ds, (), Hi, _, start_env hv, sm, Step.refl sm, hd, fun σ' Hi' H' _ _ _ a => q .non Hi' H' a .non⟩
  · cases hF
/-- a def of the program that keeps a pure promise, known by its name -/
def DefOk (P : Program) (w : World) (K : PySem.W.Frag) (mg : Str → Option Value) (base : Heap) (k : Nat) (x : Str) (n : Nat) (F : List PyData → Option PyData) : Prop :=
  ∃ (f : Addr) (fd : FuncData) (ps : List Str), FnOk P w K mg base CX0 k f fd ps (spD K n F) ∧ mg x = some (.ref f) ∧ PySem.W.keepIn K (.ref f) = true ∧ Binds K fd ps []
/-- where a def stands -/
structure At1 (K : PySem.W.Frag) (mg : Str → Option Value) (x : Str) (st : Stmt) (f : Addr) (fd : FuncData) : Prop where
  fn : Fun K x x st f fd
  m : mg x = some (.ref f)
theorem def_ok {x : Str} {st : Stmt} {f : Addr} {fd : FuncData} {N ps : List Str} {k : Nat} {fb : FS Unit} (F : At1 K mg x st f fd) (bd : Binds K fd ps []) (S : FnScope N ps (defScope st))
    (hb : ∀ (cdv : Value) (A : Around) (outer : List Env) (s : Shared) (H : Hp) (E : XK) (Hi : Hp), Room k (A.deeper (envOfC x (defScope st) s.heap.objs.size f cdv)) →
      PSs (cxOf CX0 P w K mg base N x (defScope st) f cdv A outer s H E).nox (defBody st) (tDS K (ow0 Hi H) fb)) : DefOk P w K mg base (k + 1) x ps.length (runF N.length fb) :=
  ⟨f, fd, ps, fn_d F.fn S hb, F.m, F.fn.kp, bd⟩
theorem def_zero {x : Str} {st : Stmt} {f : Addr} {fd : FuncData} {ps : List Str} {k n : Nat} (F : At1 K mg x st f fd) (bd : Binds K fd ps []) : DefOk P w K mg base k x n (fun _ => none) := by
  have no : ∀ vs H Q E, ¬ spD K n (fun _ => none) vs H Q E := fun vs H Q E ⟨_, _, _, _, _, _, h, _⟩ => nomatch h
  exact ⟨f, fd, ps, ⟨fun vs H Q E h => absurd h (no vs H Q E), fun A outer s H args us vs Q E _ _ _ _ h => absurd h (no vs H Q E)⟩, F.m, F.fn.kp, bd⟩
theorem DefOk.mono {j k : Nat} {x : Str} {n : Nat} {F : List PyData → Option PyData} (h : DefOk P w K mg base j x n F) (l : j ≤ k) : DefOk P w K mg base k x n F := by
  obtain ⟨f, fd, ps, G, m, kp, b⟩ := h
  exact ⟨f, fd, ps, G.mono l, m, kp, b⟩
theorem room_eq {A : Around} {k : Nat} (hr : Room k A) : A.units + 200 < cLine := by
  have := hr.un
  omega
end
section
variable {S : Type} {X : Cx} {O : Ow S} {p pos : Pos} {x : Str} {a : Expr} {es : List Expr} {fas : FA S} {n k j : Nat} {F : List PyData → Option PyData}
theorem pd_call (C : DefOk X.prog X.w X.K X.mg X.base j x n F) (hr : Room k X.A) (hj : j ≤ k) (ha : PA X (a :: es) (tDA X.K O fas)) (hg : Gl X x := by rfl) (hdb : (x == ("__debug__" : Str)) = false := by decide)
    (he : starEach (a :: es) X.env = (false, eval a X.env) :: starEach es X.env := by rfl) (hpl : (backTo pos (starEach es X.env)).any (·.1) = false := by rfl) :
    PE X (.Call (.Name x p) (a :: es) [] pos) (tD X.K O (fCall n F fas)) := by
  obtain ⟨f, fd, ps, G, m, kp, b⟩ := C
  refine pe_w (pe_call G (hr.mono hj) hg m kp b .nil pass0 ha hdb he hpl) ?_
  rintro σ H Q ⟨D, s, Hi, e, E, sm, A, h, q⟩
  obtain ⟨ds, hc, h⟩ := bind_some h
  split at h
  · rename_i hl
    refine ⟨D, s, Hi, ds, E, sm, A, hc, fun vs Hi1 H1 st1 hv => ?_⟩
    show spD X.K n F (vs ++ []) H1 Q E0
    rw [List.append_nil]
    exact ⟨Hi1, ds, e, st1.s, hv, hl, h, fun v Hi' H' st hd => q v Hi' H' (st1.trans st) hd⟩
  · cases h
end

/-! ### 11. a list of one's own -/
section
variable {K : PySem.W.Frag}
/-- a body that owns the list at l, held by slot j; Hi0, H0: the entry -/
def owL (K : PySem.W.Frag) (Hi0 H0 : Hp) (l : Addr) (j : Nat) : Ow (List PyData) where
  At := fun Hi H σ L => Same Hi0 Hi ∧ (∀ a o, a ≠ l → H0 a = some o → H a = some o) ∧ (∀ a, H0 a ≠ none → Hi0 a = none → Hi a = none) ∧ Hi l = none ∧ (∃ vs, H l = some (.lst vs) ∧ DpAll K Hi vs L) ∧ σ[j]? = some (some (.ref l))
  fr := fun i => i != j
  slot := j
  step := by
    rintro Hi H Hi' H' σ L ⟨a, b, c, d, ⟨vs, e1, e2⟩, f⟩ st
    refine ⟨a.trans st.i, fun x o h1 h2 => st.h _ _ (b x o h1 h2), fun x h1 h2 => ?_, st.n l (by rw [e1]; exact fun z => nomatch z) d, ⟨vs, st.h _ _ e1, dpa_mono st.i _ _ e2⟩, f⟩
    by_cases hx : x = l
    · subst hx; exact st.n x (by rw [e1]; exact fun z => nomatch z) d
    · refine st.n x ?_ (c x h1 h2)
      cases q : H0 x with
      | none => exact absurd q h1
      | some o => rw [b x o hx q]; exact fun z => nomatch z
  set := by
    rintro Hi H σ L i o ⟨a, b, c, d, e, f⟩ fr
    refine ⟨a, b, c, d, e, ?_⟩
    have hij : i ≠ j := by simpa using fr
    rw [List.getElem?_set_ne hij]
    exact f
/-- changing the list -/
theorem owL_put {Hi0 H0 Hi H : Hp} {l : Addr} {j : Nat} {σ : L2.St} {L L' : List PyData} {vs : List V} (A : (owL K Hi0 H0 l j).At Hi H σ L) (sm : Same Hi H) (h : DpAll K Hi vs L') : (owL K Hi0 H0 l j).At Hi (upd H l (.lst vs)) σ L' ∧ Same Hi (upd H l (.lst vs)) := by
  obtain ⟨a, b, c, d, _, f⟩ := A
  refine ⟨⟨a, fun x o h1 h2 => ?_, c, d, ⟨vs, upd_same, h⟩, f⟩, fun x o e => ?_⟩
  · rw [upd_ne h1]; exact b x o h1 h2
  · rw [upd_ne (ne_of_none e d)]; exact sm x o e
end
def sApp (fe : FE (List PyData)) : FS (List PyData) := fun D L => (fe D L).bind fun d => if L.length < sizeLine then some (.nx D (L ++ [d])) else none
def fOwnLen : FE (List PyData) := fun _ L => some (.int L.length)
def fOwnIx (fe : FE (List PyData)) : FE (List PyData) := fun D L => (fe D L).bind fun d => (asI d).bind fun i => atI L i
def sRo {S : Type} : FS S := fun _ s => some (.ro s)
/-- a def that changes its first argument, a list -/
def spO (K : PySem.W.Frag) (n : Nat) (F : List PyData → List PyData → Option (List PyData)) : Sp := fun vs H Q _ =>
  ∃ (l : Addr) (vs' : List V) (Hi : Hp) (L ds L' : List PyData), vs = .ref l :: vs' ∧ Same Hi H ∧ Hi l = none ∧ (∃ us, H l = some (.lst us) ∧ DpAll K Hi us L) ∧ DpAll K Hi vs' ds ∧ ds.length = n ∧ F L ds = some L' ∧
    ∀ Hi' H', Same Hi Hi' → Same Hi' H' → (∀ a o, a ≠ l → H a = some o → H' a = some o) → (∀ a, H a ≠ none → Hi a = none → Hi' a = none) → Hi' l = none → (∃ us, H' l = some (.lst us) ∧ DpAll K Hi' us L') → Q .non H'
def sCallO (n : Nat) (F : List PyData → List PyData → Option (List PyData)) (a : FA (List PyData)) : FS (List PyData) := fun D L => (a D L).bind fun ds => if ds.length = n then (F L ds).bind fun L' => some (.nx D L') else none
def runO (N : Nat) (f : FS (List PyData)) (L ds : List PyData) : Option (List PyData) := match f (none :: startD N ds) L with
  | some (.nx _ L') => some L'
  | some (.rt .none L') => some L'
  | _ => none
def sNewL (j : Nat) (a : FA Unit) (f : FS (List PyData)) : FS Unit := fun D s => (a D s).bind fun ds => if ds.length ≤ sizeLine ∧ j < D.length then (match f (D.set j none) ds with
  | some (.rt d _) => some (.rt d ())
  | some (.ro L) => some (.rt (.list L) ())
  | _ => none) else none
def DefOkO (P : Program) (w : World) (K : PySem.W.Frag) (mg : Str → Option Value) (base : Heap) (k : Nat) (x : Str) (n : Nat) (F : List PyData → List PyData → Option (List PyData)) : Prop :=
  ∃ (f : Addr) (fd : FuncData) (ps : List Str), FnOk P w K mg base CX0 k f fd ps (spO K n F) ∧ mg x = some (.ref f) ∧ PySem.W.keepIn K (.ref f) = true ∧ Binds K fd ps []
section
variable {X : Cx} {Hi0 H0 : Hp} {l : Addr} {j : Nat} {pos p p2 p3 p4 : Pos} {nm : Str} {e a : Expr} {es : List Expr} {fe : FE (List PyData)} {fas : FA (List PyData)}
theorem psd_app (hv : PE X (.Name nm p) (tVar j)) (he : PE X e (tD X.K (owL X.K Hi0 H0 l j) fe)) (hbase : attributeBase (.Name nm p) "append" X.env (eval (.Name nm p) X.env) = eval (.Name nm p) X.env := by rfl)
    (hfew : ((backTo p3 (starEach [e] X.env)).all (fun x => !x.1) && (backToKw p3 (keywordEach [] X.env)).all (fun x => x.1.isSome) && decide ([e].length + ([] : List Keyword).length + (if ([] : List Keyword).isEmpty then 0 else 1) < 30)) = true := by rfl)
    (hline : (p2.endLine == p3.line) = true := by rfl) (hs : starEach [e] X.env = (false, eval e X.env) :: starEach [] X.env := by rfl) (hplain : (backTo p3 (starEach [] X.env)).any (·.1) = false := by rfl)
    (hsw : swapsWith (.Call (.Attribute (.Name nm p) "append" p2) [e] [] p3) none pos.line X.env = pure false := by rfl) :
    PS X (.Expr (.Call (.Attribute (.Name nm p) "append" p2) [e] [] p3) pos) (tDS X.K (owL X.K Hi0 H0 l j) (sApp fe)) :=
  ps_w (ps_expr (pe_bm PySem.F.plainAttrs_list PySem.F.slot_list_append PySem.F.type_list_append mt_append hv (pa_cons he pa_nil hs) hbase hfew hline hs hplain) hsw) (by
    rintro E σ H ⟨D, L, Hi, r, En, sm, A, h, q⟩
    obtain ⟨d, hd, h⟩ := bind_some h
    split at h
    · rename_i hz
      cases h
      have A' := A
      obtain ⟨_, _, _, hl, ⟨vs, hvs, hvd⟩, hj⟩ := A'
      refine ⟨.ref l, hj, .inl ⟨rfl, vs, SqL.of hvs⟩, ?_⟩
      refine ⟨D, L, Hi, d, En, sm, A, hd, fun v Hi1 H1 st1 hv => ?_⟩
      have hvs1 := st1.h _ _ hvs
      refine ⟨l, vs, v, rfl, rfl, hvs1, by rw [dpa_len hvd]; exact hz, ?_⟩
      obtain ⟨A2, s2⟩ := owL_put ((owL X.K Hi0 H0 l j).step A st1) st1.s (dpa_append (dpa_mono st1.i _ _ hvd) (.cons hv .nil))
      exact q σ Hi1 _ st1.i (En.mono st1.i) s2 A2
    · cases h)
theorem pd_ownLen (hm : X.mg "len" = none) (hv : PE X (.Name nm p) (tVar j)) (hg : Gl X "len" := by rfl) (he : starEach [.Name nm p] X.env = (false, eval (.Name nm p) X.env) :: starEach [] X.env := by rfl) (hpl : (backTo pos (starEach [] X.env)).any (·.1) = false := by rfl) :
    PE X (.Call (.Name "len" p2) [.Name nm p] [] pos) (tD X.K (owL X.K Hi0 H0 l j) fOwnLen) := pe_w (pe_callB call_len_seq hg hm PySem.boot_len (pa_cons hv pa_nil he) (he := he) (hpl := hpl)) (by
  rintro σ H Q ⟨D, L, Hi, d, En, sm, A, h, q⟩
  cases h
  obtain ⟨_, _, _, hl, ⟨vs, hvs, hvd⟩, hj⟩ := A
  refine ⟨.ref l, hj, l, vs, rfl, .inl (SqL.of hvs), ?_⟩
  rw [dpa_len hvd]
  exact q _ Hi H (.refl sm) (.int _))
theorem pd_ownIx (hv : PE X (.Name nm p) (tVar j)) (he : PE X e (tD X.K (owL X.K Hi0 H0 l j) fe)) (hs : PlainIx e := by exact fun _ _ => rfl) :
    PE X (.Subscript (.Name nm p) e pos) (tD X.K (owL X.K Hi0 H0 l j) (fOwnIx fe)) := pe_w (pe_ix ix_list hv he hs) (by
  rintro σ H Q ⟨D, L, Hi, d, En, sm, A, h, q⟩
  obtain ⟨c, hc, h⟩ := bind_some h
  obtain ⟨i, hi, h⟩ := bind_some h
  have A' := A
  obtain ⟨_, _, _, hl, ⟨vs, hvs, hvd⟩, hj⟩ := A'
  refine ⟨.ref l, hj, D, L, Hi, c, En, sm, A, hc, fun v Hi1 H1 st1 hv => ?_⟩
  cases c with
  | int k =>
    have ek : k = i := Option.some.inj hi
    subst ek
    obtain ⟨u, hu, hd⟩ := dpa_atI (K := X.K) (dpa_mono st1.i _ _ hvd) h
    exact ⟨l, vs, k, u, rfl, dp_int hv, SqL.of (st1.h _ _ hvs), hu, q _ Hi1 H1 st1 hd⟩
  | _ => exact nomatch hi)
theorem psd_retO (hv : PE X (.Name nm p) (tVar j)) : PS X (.Return (some (.Name nm p)) pos) (tDS X.K (owL X.K Hi0 H0 l j) sRo) := ps_w (ps_ret hv) (by
  rintro E σ H ⟨D, L, Hi, r, En, sm, A, h, q⟩
  cases h
  have hj := A.2.2.2.2.2
  exact ⟨_, hj, q σ _ Hi H sm A hj⟩)
/-- f(own, ..), f a def that changes its first argument -/
theorem psd_callO {n k m : Nat} {F : List PyData → List PyData → Option (List PyData)} {x : Str} (C : DefOkO X.prog X.w X.K X.mg X.base m x n F) (hr : Room k X.A) (hj : m ≤ k) (hv : PE X (.Name nm p) (tVar j)) (ha : PA X es (tDA X.K (owL X.K Hi0 H0 l j) fas)) (hg : Gl X x := by rfl) (hdb : (x == ("__debug__" : Str)) = false := by decide)
    (he : starEach (.Name nm p :: es) X.env = (false, eval (.Name nm p) X.env) :: starEach es X.env := by rfl) (hpl : (backTo p3 (starEach es X.env)).any (·.1) = false := by rfl)
    (hsw : swapsWith (.Call (.Name x p2) (.Name nm p :: es) [] p3) none pos.line X.env = pure false := by rfl) :
    PS X (.Expr (.Call (.Name x p2) (.Name nm p :: es) [] p3) pos) (tDS X.K (owL X.K Hi0 H0 l j) (sCallO n F fas)) := by
  obtain ⟨f, fd, ps, G, mm, kp, b⟩ := C
  refine ps_w (ps_expr (pe_call G (hr.mono hj) hg mm kp b .nil pass0 (pa_cons hv ha he) hdb he hpl) hsw) ?_
  rintro E σ H ⟨D, L, Hi, r, En, sm, A, h, q⟩
  obtain ⟨ds, hd, h⟩ := bind_some h
  split at h
  · rename_i hz
    obtain ⟨L', hL, h⟩ := bind_some h
    cases h
    refine ⟨.ref l, A.2.2.2.2.2, D, L, Hi, ds, En, sm, A, hd, fun vs Hi1 H1 st1 hvs => ?_⟩
    have A1 := (owL X.K Hi0 H0 l j).step A st1
    have A1' := A1
    obtain ⟨a1, a2, a3, a4, a5, a6⟩ := A1'
    show spO X.K n F ((.ref l :: vs) ++ []) H1 (fun _ H1 => E.nx σ H1) E0
    rw [List.append_nil]
    refine ⟨l, vs, Hi1, L, ds, L', rfl, st1.s, a4, a5, hvs, hz, hL, fun Hi2 H2 m1 m2 b1 b2 b3 b4 => ?_⟩
    refine q σ Hi2 H2 (st1.i.trans m1) (En.mono (st1.i.trans m1)) m2 ⟨a1.trans m1, fun y o h1 h2 => b1 y o h1 (a2 y o h1 h2), fun y h1 h2 => ?_, b3, b4, a6⟩
    by_cases hy : y = l
    · subst hy; exact b3
    · refine b2 y ?_ (a3 y h1 h2)
      cases e0 : H0 y with
      | none => exact absurd e0 h1
      | some o => rw [a2 y o hy e0]; exact fun z => nomatch z
  · cases h
/-- own = [..]; then the rest -/
theorem pss_newL {fa0 : FA Unit} {fr : FS (List PyData)} {rest : List Stmt} (hN : X.N.Nodup) (hi : X.N[j]? = some nm) (hx : Loc X.env.scope nm) (ha : PA X es (tDA X.K (ow0 Hi0 H0) fa0))
    (hrest : ∀ l, PSs X rest (tDS X.K (owL X.K Hi0 H0 l j) fr)) (hs : swapsWith (.List es p3) (some (.Name nm p)) pos.line X.env = pure false := by rfl) (hf : X.fn nm = true ∨ X.env.scope.names.lookup nm = some .local := by first | exact .inl rfl | exact .inr rfl | assumption) :
    PSs X (.Assign [.Name nm p] (.List es p3) pos :: rest) (tDS X.K (ow0 Hi0 H0) (sNewL j fa0 fr)) := by
  have hR : PSs X rest (fun E σ H => ∃ l, tDS X.K (owL X.K Hi0 H0 l j) fr E σ H) := ⟨fun pins s σ H D I ⟨l, h⟩ => (hrest l).run pins s σ H D I h⟩
  refine pss_w (pss_cons (ps_set hN hi hx (pe_lst ha) hs hf) hR) ?_
  rintro E σ H ⟨D, s, Hi, r, En, sm, A, h, q⟩
  obtain ⟨ds, hd, h⟩ := bind_some h
  split at h
  · rename_i hz
    refine ⟨D, s, Hi, ds, En, sm, A, hd, fun vs Hi1 H1 st1 hv => ?_⟩
    refine ⟨by rw [dpa_len hv]; exact hz.1, fun l hl => ⟨l, ?_⟩⟩
    have st : Step Hi0 H0 Hi1 H1 := Step.trans A st1
    have h0 : H0 l = none := Same.free st.h hl
    have hi1 : Hi1 l = none := Same.free st.s hl
    have A2 : (owL X.K Hi0 H0 l j).At Hi1 (upd H1 l (.lst vs)) (σ.set j (some (.ref l))) ds := by
      refine ⟨st.i, fun a o h1 h2 => ?_, st.n, hi1, ⟨vs, upd_same, hv⟩, ?_⟩
      · rw [upd_ne h1]; exact st.h a o h2
      · rw [List.getElem?_set_self (by rw [En.len]; exact hz.2)]
    have sm2 : Same Hi1 (upd H1 l (.lst vs)) := fun x o e => by rw [upd_ne (ne_of_none e hi1)]; exact st.s x o e
    have E2 : EnvD X.K Hi1 (σ.set j (some (.ref l))) (D.set j none) := (En.mono st1.i).drop
    cases hfr : fr (D.set j none) ds with
    | none => rw [hfr] at h; cases h
    | some rr =>
      rw [hfr] at h
      refine ⟨D.set j none, ds, Hi1, rr, E2, sm2, A2, hfr, ?_⟩
      cases rr with
      | nx D' s' => cases h
      | ct D' s' => cases h
      | bk D' s' => cases h
      | rt d s' =>
        cases h
        intro σ' v Hi' H' m a hp
        obtain ⟨b1, b2, b3, b4, b5, b6⟩ := a
        exact q σ' v Hi' H' m ⟨b1, fun x o e => b2 x o (ne_of_none e h0) e, m, b3⟩ hp
      | ro L' =>
        cases h
        intro σ' v Hi' H' m a hp
        obtain ⟨b1, b2, b3, b4, ⟨us, b5, b5'⟩, b6⟩ := a
        have ev : v = .ref l := Option.some.inj (Option.some.inj (hp.symm.trans b6))
        subst ev
        have st' : Step Hi0 H0 Hi' H' := ⟨b1, fun x o e => b2 x o (ne_of_none e h0) e, m, b3⟩
        have st2 := st'.take h0 b5 b4
        exact q σ' _ (upd Hi' l (.lst us)) H' st2.s st2 (.lst (.of upd_same) (dpa_mono (same_new b4 _) _ _ b5'))
  · cases h
end
section
variable {P : Program} {w : World} {K : PySem.W.Frag} {mg : Str → Option Value} {base : Heap}
/-- THE RULE for a def that changes its first argument -/
theorem def_okO {x : Str} {st : Stmt} {f : Addr} {fd : FuncData} {y : Str} {N ps : List Str} {k : Nat} {fb : FS (List PyData)} (F : At1 K mg x st f fd) (bd : Binds K fd (y :: ps) []) (S : FnScope (y :: N) (y :: ps) (defScope st))
    (hb : ∀ (cdv : Value) (A : Around) (outer : List Env) (s : Shared) (H : Hp) (E : XK) (Hi : Hp) (l : Addr), Room k (A.deeper (envOfC x (defScope st) s.heap.objs.size f cdv)) →
      PSs (cxOf CX0 P w K mg base (y :: N) x (defScope st) f cdv A outer s H E).nox (defBody st) (tDS K (owL K Hi H l 0) fb)) : DefOkO P w K mg base (k + 1) x ps.length (runO N.length fb) := by
  refine ⟨f, fd, y :: ps, F.fn.ok S (fun vs H Q E ⟨l, vs', Hi, L, ds, L', e, _, _, _, hv, hl, _⟩ => ?_) (fun cdv A outer s H vs Q E hr ⟨l, vs', Hi, L, ds, L', e, sm, hl, hL, hv, hn, hF, q⟩ => ⟨_, hb cdv A outer s H E Hi l hr, ?_⟩), F.m, F.fn.kp, bd⟩
  · rw [e, List.length_cons, List.length_cons, dpa_len hv, hl]
  · subst e
    have En : EnvD K Hi (L2.start (y :: N) (.ref l :: vs')) (none :: startD N.length ds) := by
      have e0 := start_env (N := N) hv
      have es : L2.start (y :: N) (.ref l :: vs') = some (.ref l) :: L2.start N vs' := by
        unfold L2.start
        simp
      rw [es]
      refine ⟨by rw [List.length_cons, List.length_cons, e0.len], fun i d h => ?_⟩
      cases i with
      | zero => simp at h
      | succ i => exact e0.get i d (by simpa using h)
    have A0 : (owL K Hi H l 0).At Hi H (L2.start (y :: N) (.ref l :: vs')) L := by
      refine ⟨Same.refl _, fun _ _ _ h => h, fun _ _ h => h, hl, hL, ?_⟩
      unfold L2.start
      rfl
    unfold runO at hF
    split at hF
    · rename_i D' L2 hd
      cases hF
      exact ⟨_, L, Hi, _, En, sm, A0, hd, fun σ' Hi' H' m _ m2 a => q Hi' H' m m2 a.2.1 a.2.2.1 a.2.2.2.1 a.2.2.2.2.1⟩
    · rename_i L2 hd
      cases hF
      refine ⟨_, L, Hi, _, En, sm, A0, hd, fun σ' v Hi' H' m2 a hp => ?_⟩
      rw [dp_non hp]
      exact q Hi' H' a.1 m2 a.2.1 a.2.2.1 a.2.2.2.1 a.2.2.2.2.1
    · cases hF
theorem def_zeroO {x : Str} {st : Stmt} {f : Addr} {fd : FuncData} {ps : List Str} {k n : Nat} (F : At1 K mg x st f fd) (bd : Binds K fd ps []) : DefOkO P w K mg base k x n (fun _ _ => none) := by
  have no : ∀ vs H Q E, ¬ spO K n (fun _ _ => none) vs H Q E := fun vs H Q E ⟨_, _, _, _, _, _, _, _, _, _, _, _, h, _⟩ => nomatch h
  exact ⟨f, fd, ps, ⟨fun vs H Q E h => absurd h (no vs H Q E), fun A outer s H args us vs Q E _ _ _ _ h => absurd h (no vs H Q E)⟩, F.m, F.fn.kp, bd⟩
theorem DefOkO.mono {j k : Nat} {x : Str} {n : Nat} {F : List PyData → List PyData → Option (List PyData)} (h : DefOkO P w K mg base j x n F) (l : j ≤ k) : DefOkO P w K mg base k x n F := by
  obtain ⟨f, fd, ps, G, m, kp, b⟩ := h
  exact ⟨f, fd, ps, G.mono l, m, kp, b⟩
end
section
variable {S : Type} {X : Cx} {O : Ow S} {elt tg iter : Expr} {ifs : List Expr} {scope : Scope} {nm y : Str} {i j : Nat} {pos py spos : Pos} {fi fe : FE S} {ft : FT S}
theorem psd_setLcT (hc : X.calm = true) (hN : X.N.Nodup) (hy : X.N[j]? = some y) (hyl : X.env.scope.names.lookup y = some .local) (frj : O.fr j = true)
    (hsw : swapsWith (.ListComp elt [⟨tg, iter, ifs, 0⟩] scope pos) (some (.Name y py)) spos.line X.env = pure true) (hi : PE X iter (tD X.K O fi)) (ok : BlkOk X.N X.env.scope scope [(nm, i)]) (fr : O.fr i = true)
    (hg : ∀ (s : Shared) (H : Hp) (C : Addr) (cl : List (Str × Addr)) (fp : List Addr), PG (X.blk s H scope (compEnvC scope cl C X.env) fp) tg (gName i)) (ht : ∀ (s : Shared) (H : Hp) (C : Addr) (cl : List (Str × Addr)) (fp : List Addr), PTs (X.blk s H scope (compEnvC scope cl C X.env) fp) ifs (tDT X.K O ft))
    (he : ∀ (s : Shared) (H : Hp) (C : Addr) (cl : List (Str × Addr)) (fp : List Addr), PE (X.blk s H scope (compEnvC scope cl C X.env) fp) elt (tD X.K O fe)) (hs : ∀ x, foldedSetIterable iter X.env x = pure x := by intro _; rfl) :
    PS X (.Assign [.Name y py] (.ListComp elt [⟨tg, iter, ifs, 0⟩] scope pos) spos) (tDS X.K O (sAsg j (fComp itemsT i fi ft fe))) := ps_w (ps_setLc hc hN hy hyl hsw (pi_tup hi) ok hg ht he hs) (w_asg frj fun σ H Q => w_lcT σ H Q fr)
theorem psd_setLcL (hc : X.calm = true) (hN : X.N.Nodup) (hy : X.N[j]? = some y) (hyl : X.env.scope.names.lookup y = some .local) (frj : O.fr j = true)
    (hsw : swapsWith (.ListComp elt [⟨tg, iter, ifs, 0⟩] scope pos) (some (.Name y py)) spos.line X.env = pure true) (hi : PE X iter (tD X.K O fi)) (ok : BlkOk X.N X.env.scope scope [(nm, i)]) (fr : O.fr i = true)
    (hg : ∀ (s : Shared) (H : Hp) (C : Addr) (cl : List (Str × Addr)) (fp : List Addr), PG (X.blk s H scope (compEnvC scope cl C X.env) fp) tg (gName i)) (ht : ∀ (s : Shared) (H : Hp) (C : Addr) (cl : List (Str × Addr)) (fp : List Addr), PTs (X.blk s H scope (compEnvC scope cl C X.env) fp) ifs (tDT X.K O ft))
    (he : ∀ (s : Shared) (H : Hp) (C : Addr) (cl : List (Str × Addr)) (fp : List Addr), PE (X.blk s H scope (compEnvC scope cl C X.env) fp) elt (tD X.K O fe)) (hs : ∀ x, foldedSetIterable iter X.env x = pure x := by intro _; rfl) :
    PS X (.Assign [.Name y py] (.ListComp elt [⟨tg, iter, ifs, 0⟩] scope pos) spos) (tDS X.K O (sAsg j (fComp itemsL i fi ft fe))) := ps_w (ps_setLc hc hN hy hyl hsw (pi_list hi) ok hg ht he hs) (w_asg frj fun σ H Q => w_lcL σ H Q fr)
end
/-- the built-ins that the program leaves as they are -/
structure Free (mg : Str → Option Value) : Prop where
  len : mg "len" = none
  isinstance : mg "isinstance" = none
  tuple : mg "tuple" = none
  list : mg "list" = none
  range : mg "range" = none
  all : mg "all" = none
  max : mg "max" = none
  min : mg "min" = none
  int : mg "int" = none
  str : mg "str" = none
  ord : mg "ord" = none
end DL

namespace DL
open PySem PySem.Spec PyProof.Rows L2

/-! ### 12. a pile of frames of one's own: a list of lists [kind, items]; the top first -/
abbrev Fs := List (Str × List PyData)
inductive FrsOk (K : PySem.W.Frag) (Hi H : Hp) : List Addr → Fs → List Addr → Prop
  | nil : FrsOk K Hi H [] [] []
  | cons {f g : Addr} {k : Str} {vs : List V} {items : List PyData} {fs A : List Addr} {L : Fs} : H f = some (.lst [.str k, .ref g]) → H g = some (.lst vs) → DpAll K Hi vs items → FrsOk K Hi H fs L A → FrsOk K Hi H (f :: fs) ((k, items) :: L) (f :: g :: A)
def FrAt (K : PySem.W.Frag) (Hi H : Hp) (l : Addr) (L : Fs) (B : List Addr) : Prop :=
  ∃ fs A, B = l :: A ∧ B.Nodup ∧ (∀ a ∈ B, Hi a = none) ∧ H l = some (.lst (fs.reverse.map V.ref)) ∧ FrsOk K Hi H fs L A
section
variable {K : PySem.W.Frag} {Hi H Hi' H' : Hp} {l : Addr} {L : Fs} {A B : List Addr} {fs : List Addr}
theorem FrsOk.kept (h : FrsOk K Hi H fs L A) (m : Same Hi Hi') (k : ∀ a ∈ A, ∀ o, H a = some o → H' a = some o) : FrsOk K Hi' H' fs L A := by
  induction h with
  | nil => exact .nil
  | cons h1 h2 h3 h4 ih =>
    exact .cons (k _ (List.mem_cons_self) _ h1) (k _ (List.mem_cons_of_mem _ List.mem_cons_self) _ h2) (dpa_mono m _ _ h3) (ih fun a ha => k a (List.mem_cons_of_mem _ (List.mem_cons_of_mem _ ha)))
theorem FrsOk.there (h : FrsOk K Hi H fs L A) : ∀ a ∈ A, H a ≠ none := by
  induction h with
  | nil => intro a ha; cases ha
  | cons h1 h2 h3 h4 ih =>
    intro a ha
    rcases List.mem_cons.mp ha with rfl | ha
    · rw [h1]; exact fun z => nomatch z
    · rcases List.mem_cons.mp ha with rfl | ha
      · rw [h2]; exact fun z => nomatch z
      · exact ih a ha
theorem FrsOk.len (h : FrsOk K Hi H fs L A) : fs.length = L.length := by
  induction h with
  | nil => rfl
  | cons _ _ _ _ ih => rw [List.length_cons, List.length_cons, ih]
theorem FrAt.there (h : FrAt K Hi H l L B) : ∀ a ∈ B, H a ≠ none := by
  obtain ⟨fs, A, rfl, _, _, hl, hf⟩ := h
  intro a ha
  rcases List.mem_cons.mp ha with rfl | ha
  · rw [hl]; exact fun z => nomatch z
  · exact hf.there a ha
theorem FrAt.step (h : FrAt K Hi H l L B) (st : Step Hi H Hi' H') : FrAt K Hi' H' l L B := by
  have th := h.there
  obtain ⟨fs, A, rfl, nd, hn, hl, hf⟩ := h
  exact ⟨fs, A, rfl, nd, fun a ha => st.n a (th a ha) (hn a ha), st.h _ _ hl, hf.kept st.i fun a _ o e => st.h a o e⟩
theorem FrAt.mem (h : FrAt K Hi H l L B) : l ∈ B := by
  obtain ⟨fs, A, rfl, _⟩ := h
  exact List.mem_cons_self
end
/-- a body that owns the pile at l; B0: what the pile was made of at the entry -/
def owF (K : PySem.W.Frag) (Hi0 H0 : Hp) (B0 : List Addr) (l : Addr) (j : Nat) : Ow Fs where
  At := fun Hi H σ L => ∃ B, FrAt K Hi H l L B ∧ (∀ a ∈ B, a ∈ B0 ∨ H0 a = none) ∧ Same Hi0 Hi ∧ (∀ a o, a ∉ B0 → H0 a = some o → H a = some o) ∧ (∀ a, a ∉ B0 → H0 a ≠ none → Hi0 a = none → Hi a = none) ∧ σ[j]? = some (some (.ref l))
  fr := fun i => i != j
  slot := j
  step := by
    rintro Hi H Hi' H' σ L ⟨B, f, b, i, h, n, s⟩ st
    refine ⟨B, f.step st, b, i.trans st.i, fun a o h1 h2 => st.h _ _ (h a o h1 h2), fun a h1 h2 h3 => st.n a ?_ (n a h1 h2 h3), s⟩
    cases q : H0 a with
    | none => exact absurd q h2
    | some o => rw [h a o h1 q]; exact fun z => nomatch z
  set := by
    rintro Hi H σ L i o ⟨B, f, b, ii, h, n, s⟩ fr
    refine ⟨B, f, b, ii, h, n, ?_⟩
    have hij : i ≠ j := by simpa using fr
    rw [List.getElem?_set_ne hij]
    exact s
/-- a def that works on the pile -/
def spF (K : PySem.W.Frag) (n : Nat) (F : Fs → List PyData → Option (PyData × Fs)) : Sp := fun vs H Q _ =>
  ∃ (l : Addr) (vs' : List V) (Hi : Hp) (L L' : Fs) (ds : List PyData) (B : List Addr) (r : PyData), vs = .ref l :: vs' ∧ Same Hi H ∧ FrAt K Hi H l L B ∧ DpAll K Hi vs' ds ∧ ds.length = n ∧ F L ds = some (r, L') ∧
    ∀ v Hi' H' B', Same Hi Hi' → Same Hi' H' → (∀ a o, a ∉ B → H a = some o → H' a = some o) → (∀ a, a ∉ B → H a ≠ none → Hi a = none → Hi' a = none) → FrAt K Hi' H' l L' B' → (∀ a ∈ B', a ∈ B ∨ H a = none) → Dp K Hi' v r → Q v H'
def fFrT : FT Fs := fun _ L => some (!L.isEmpty)
def fTopKind : FE Fs := fun _ L => match L with
  | (k, _) :: _ => some (.str k)
  | [] => none
def fTopLen : FE Fs := fun _ L => match L with
  | (_, xs) :: _ => some (.int xs.length)
  | [] => none
def sTopApp (fe : FE Fs) : FS Fs := fun D L => (fe D L).bind fun d => match L with
  | (k, xs) :: r => if xs.length < sizeLine then some (.nx D ((k, xs ++ [d]) :: r)) else none
  | [] => none
def sPop (i : Nat) : FS Fs := fun D L => match L with
  | (k, xs) :: r => some (.nx (D.set i (some (.list [.str k, .list xs]))) r)
  | [] => none
def asS : PyData → Option Str
  | .str x => some x
  | _ => none
def sPush (fe : FE Fs) : FS Fs := fun D L => (fe D L).bind fun d => (asS d).bind fun k => if L.length < sizeLine then some (.nx D ((k, []) :: L)) else none
def sCallF (n : Nat) (F : Fs → List PyData → Option (PyData × Fs)) (a : FA Fs) : FS Fs := fun D L => (a D L).bind fun ds => if ds.length = n then (F L ds).bind fun p => some (.nx D p.2) else none
def sSetF (i n : Nat) (F : Fs → List PyData → Option (PyData × Fs)) (a : FA Fs) : FS Fs := fun D L => (a D L).bind fun ds => if ds.length = n then (F L ds).bind fun p => some (.nx (D.set i (some p.1)) p.2) else none
def runP (N : Nat) (f : FS Fs) (L : Fs) (ds : List PyData) : Option (PyData × Fs) := match f (none :: startD N ds) L with
  | some (.nx _ L') => some (.none, L')
  | some (.rt d L') => some (d, L')
  | _ => none
def sNewF (j : Nat) (f : FS Fs) : FS Unit := fun D s => if j < D.length then (match f (D.set j none) [] with
  | some (.rt d _) => some (.rt d ())
  | _ => none) else none
def DefOkF (P : Program) (w : World) (K : PySem.W.Frag) (mg : Str → Option Value) (base : Heap) (k : Nat) (x : Str) (n : Nat) (F : Fs → List PyData → Option (PyData × Fs)) : Prop :=
  ∃ (f : Addr) (fd : FuncData) (ps : List Str), FnOk P w K mg base CX0 k f fd ps (spF K n F) ∧ mg x = some (.ref f) ∧ PySem.W.keepIn K (.ref f) = true ∧ Binds K fd ps []
section
variable {X : Cx} {Hi0 H0 : Hp} {B0 : List Addr} {l : Addr} {j : Nat} {pos p p1 p2 p3 p4 p5 p6 p7 p8 : Pos} {k1 k2 k3 : Nat} {nm : Str} {e a : Expr} {es : List Expr} {fe : FE Fs} {fas : FA Fs}
theorem FrAt.lst {K : PySem.W.Frag} {Hi H : Hp} {L : Fs} {B : List Addr} (h : FrAt K Hi H l L B) : ∃ fs : List Addr, H l = some (.lst (fs.reverse.map V.ref)) ∧ fs.length = L.length := by
  obtain ⟨fs, A, _, _, _, hl, hf⟩ := h
  exact ⟨fs, hl, hf.len⟩
theorem td_frT (hv : PE X (.Name nm p) (tVar j)) (he : ∀ whole, isTrue (.Name nm p) X.env whole = (do let v ← whole; standAt (Expr.Name nm p).pos; holding [v] (truthy v)) := by intro _; rfl) :
    PT X (.Name nm p) (tDT X.K (owF X.K Hi0 H0 B0 l j) fFrT) := pt_w (pt_truth hv he) (by
  rintro σ H Q ⟨D, L, Hi, b, En, sm, A, h, q⟩
  cases h
  obtain ⟨B, f, _, _, _, _, hj⟩ := A
  obtain ⟨fs, hl, hn⟩ := f.lst
  refine ⟨.ref l, hj, !L.isEmpty, .inl ⟨_, SqL.of hl, ?_⟩, q Hi H (.refl sm)⟩
  cases L with
  | nil =>
    cases fs with
    | nil => rfl
    | cons _ _ => cases hn
  | cons _ _ =>
    cases fs with
    | nil => cases hn
    | cons f r => simp)
theorem frs_top {K : PySem.W.Frag} {Hi H : Hp} {k : Str} {xs : List PyData} {r : Fs} {B : List Addr} (h : FrAt K Hi H l ((k, xs) :: r) B) :
    ∃ (f g : Addr) (fs A : List Addr) (vs : List V), B = l :: f :: g :: A ∧ H l = some (.lst (fs.reverse.map V.ref ++ [.ref f])) ∧ H f = some (.lst [.str k, .ref g]) ∧ H g = some (.lst vs) ∧ DpAll K Hi vs xs ∧ FrsOk K Hi H fs r A := by
  obtain ⟨fs, A, rfl, nd, hn, hl, hf⟩ := h
  cases hf with
  | cons h1 h2 h3 h4 =>
    refine ⟨_, _, _, _, _, rfl, ?_, h1, h2, h3, h4⟩
    rw [hl, List.reverse_cons, List.map_append]
    rfl
/-- frames[-1][i] -/
theorem pe_top1 (hv : PE X (.Name nm p) (tVar j)) {i : Int} : PE X (.Subscript (.Subscript (.Name nm p) (.UnaryOp .USub (.Constant (.int 1) k1 p1) p2) p3) (.Constant (.int i) k2 p4) p5) (tOp (rIxL X.K) (tOp (rIxL X.K) (tVar j) (tUn (rU fun i => .int (-i)) (tC (.int 1)))) (tC (.int i))) :=
  pe_ix ix_list (pe_ix ix_list hv (pe_un un_neg pe_int) (fun _ _ => rfl)) pe_int (fun _ _ => rfl)
theorem w_top {K : PySem.W.Frag} {Hi H : Hp} {k : Str} {xs : List PyData} {r : Fs} {B : List Addr} {σ : L2.St} {i : Int} {Q : VK} (h : FrAt K Hi H l ((k, xs) :: r) B) (hj : σ[j]? = some (some (.ref l)))
    (q : ∀ (f g : Addr) (fs A : List Addr) (vs : List V), B = l :: f :: g :: A → H l = some (.lst (fs.reverse.map V.ref ++ [.ref f])) → H f = some (.lst [.str k, .ref g]) → H g = some (.lst vs) → DpAll K Hi vs xs → FrsOk K Hi H fs r A → ∃ y, atI [V.str k, V.ref g] i = some y ∧ Q y H) :
    tOp (rIxL K) (tOp (rIxL K) (tVar j) (tUn (rU fun i => .int (-i)) (tC (.int 1)))) (tC (.int i)) σ H Q := by
  obtain ⟨f, g, fs, A, vs, hB, hl, hf, hg, hd, hr⟩ := frs_top h
  obtain ⟨y, hy, q⟩ := q f g fs A vs hB hl hf hg hd hr
  exact ⟨.ref l, hj, 1, rfl, l, _, -1, .ref f, rfl, rfl, SqL.of hl, atI_last _ _, f, _, i, y, rfl, rfl, SqL.of hf, hy, q⟩
theorem pd_topKind (hv : PE X (.Name nm p) (tVar j)) : PE X (.Subscript (.Subscript (.Name nm p) (.UnaryOp .USub (.Constant (.int 1) k1 p1) p2) p3) (.Constant (.int 0) k2 p4) p5) (tD X.K (owF X.K Hi0 H0 B0 l j) fTopKind) := pe_w (pe_top1 hv) (by
  rintro σ H Q ⟨D, L, Hi, d, En, sm, A, h, q⟩
  obtain ⟨B, f, _, _, _, _, hj⟩ := A
  match L, f, h with
  | (k, xs) :: r, f, h =>
    cases h
    exact w_top f hj fun f g fs A vs _ _ hf hg hd hr => ⟨.str k, rfl, q _ Hi H (.refl sm) (.str k)⟩)
theorem pd_topLen (hm : X.mg "len" = none) (hv : PE X (.Name nm p) (tVar j)) (hg : Gl X "len" := by rfl)
    (he : starEach [.Subscript (.Subscript (.Name nm p) (.UnaryOp .USub (.Constant (.int 1) k1 p1) p2) p3) (.Constant (.int 1) k2 p4) p5] X.env = (false, eval (.Subscript (.Subscript (.Name nm p) (.UnaryOp .USub (.Constant (.int 1) k1 p1) p2) p3) (.Constant (.int 1) k2 p4) p5) X.env) :: starEach [] X.env := by rfl) (hpl : (backTo pos (starEach [] X.env)).any (·.1) = false := by rfl) :
    PE X (.Call (.Name "len" p6) [.Subscript (.Subscript (.Name nm p) (.UnaryOp .USub (.Constant (.int 1) k1 p1) p2) p3) (.Constant (.int 1) k2 p4) p5] [] pos) (tD X.K (owF X.K Hi0 H0 B0 l j) fTopLen) := pe_w (pe_callB call_len_seq hg hm PySem.boot_len (pa_cons (pe_top1 hv) pa_nil he) (he := he) (hpl := hpl)) (by
  rintro σ H Q ⟨D, L, Hi, d, En, sm, A, h, q⟩
  obtain ⟨B, f, _, _, _, _, hj⟩ := A
  match L, f, h with
  | (k, xs) :: r, f, h =>
    cases h
    refine w_top f hj fun f g fs A vs _ _ hf hg hd hr => ⟨.ref g, rfl, g, vs, rfl, .inl (SqL.of hg), ?_⟩
    rw [dpa_len hd]
    exact q _ Hi H (.refl sm) (.int _))
/-- a change of one list of the pile -/
theorem FrAt.put {K : PySem.W.Frag} {Hi H : Hp} {k : Str} {xs ys : List PyData} {r : Fs} {f g : Addr} {fs A : List Addr} {us : List V} (h : FrAt K Hi H l ((k, xs) :: r) (l :: f :: g :: A)) (hl : H l = some (.lst (fs.reverse.map V.ref ++ [.ref f]))) (hf : H f = some (.lst [.str k, .ref g])) (hr : FrsOk K Hi H fs r A) (hu : DpAll K Hi us ys) :
    FrAt K Hi (upd H g (.lst us)) l ((k, ys) :: r) (l :: f :: g :: A) := by
  obtain ⟨_, _, _, nd, hn, _, _⟩ := h
  rw [List.nodup_cons, List.nodup_cons, List.nodup_cons] at nd
  obtain ⟨n1, n2, n3, n4⟩ := nd
  have g1 : l ≠ g := fun z => n1 (by rw [z]; simp)
  have g2 : f ≠ g := fun z => n2 (by rw [z]; simp)
  refine ⟨f :: fs, f :: g :: A, rfl, by rw [List.nodup_cons, List.nodup_cons, List.nodup_cons]; exact ⟨n1, n2, n3, n4⟩, hn, ?_, .cons ?_ upd_same hu (hr.kept (Same.refl _) fun a ha o e => ?_)⟩
  · rw [upd_ne g1, hl, List.reverse_cons, List.map_append]
    rfl
  · rw [upd_ne g2]; exact hf
  · rw [upd_ne (fun z => n3 (by rw [← z]; exact ha))]; exact e
theorem psd_topApp (hv : PE X (.Name nm p) (tVar j)) (he : PE X e (tD X.K (owF X.K Hi0 H0 B0 l j) fe))
    (hbase : attributeBase (.Subscript (.Subscript (.Name nm p) (.UnaryOp .USub (.Constant (.int 1) k1 p1) p2) p3) (.Constant (.int 1) k2 p4) p5) "append" X.env (eval (.Subscript (.Subscript (.Name nm p) (.UnaryOp .USub (.Constant (.int 1) k1 p1) p2) p3) (.Constant (.int 1) k2 p4) p5) X.env) = eval (.Subscript (.Subscript (.Name nm p) (.UnaryOp .USub (.Constant (.int 1) k1 p1) p2) p3) (.Constant (.int 1) k2 p4) p5) X.env := by rfl)
    (hfew : ((backTo p7 (starEach [e] X.env)).all (fun x => !x.1) && (backToKw p7 (keywordEach [] X.env)).all (fun x => x.1.isSome) && decide ([e].length + ([] : List Keyword).length + (if ([] : List Keyword).isEmpty then 0 else 1) < 30)) = true := by rfl)
    (hline : (p6.endLine == p7.line) = true := by rfl) (hs : starEach [e] X.env = (false, eval e X.env) :: starEach [] X.env := by rfl) (hplain : (backTo p7 (starEach [] X.env)).any (·.1) = false := by rfl)
    (hsw : swapsWith (.Call (.Attribute (.Subscript (.Subscript (.Name nm p) (.UnaryOp .USub (.Constant (.int 1) k1 p1) p2) p3) (.Constant (.int 1) k2 p4) p5) "append" p6) [e] [] p7) none pos.line X.env = pure false := by rfl) :
    PS X (.Expr (.Call (.Attribute (.Subscript (.Subscript (.Name nm p) (.UnaryOp .USub (.Constant (.int 1) k1 p1) p2) p3) (.Constant (.int 1) k2 p4) p5) "append" p6) [e] [] p7) pos) (tDS X.K (owF X.K Hi0 H0 B0 l j) (sTopApp fe)) :=
  ps_w (ps_expr (pe_bm PySem.F.plainAttrs_list PySem.F.slot_list_append PySem.F.type_list_append mt_append (pe_top1 hv) (pa_cons he pa_nil hs) hbase hfew hline hs hplain) hsw) (by
    rintro E σ H ⟨D, L, Hi, r, En, sm, A, h, q⟩
    obtain ⟨d, hd, h⟩ := bind_some h
    match L, A, h, hd with
    | (k, xs) :: rr, A, h, hd =>
      have h' : (if xs.length < sizeLine then some (Res.nx D ((k, xs ++ [d]) :: rr)) else none) = some r := h
      split at h'
      · rename_i hz
        have er := Option.some.inj h'
        subst er
        have A' := A
        obtain ⟨B, f, b1, b2, b3, b4, hj⟩ := A'
        refine w_top f hj fun ff g fs AA vs hB hl hf hg hv hr => ⟨.ref g, rfl, .inl ⟨rfl, vs, SqL.of hg⟩, ?_⟩
        refine ⟨D, (k, xs) :: rr, Hi, d, En, sm, A, hd, fun v Hi1 H1 st1 hdv => ?_⟩
        have f1 := f.step st1
        subst hB
        refine ⟨g, vs, v, rfl, rfl, st1.h _ _ hg, by rw [dpa_len hv]; exact hz, ?_⟩
        have f2 := f1.put (us := vs ++ [v]) (ys := xs ++ [d]) (st1.h _ _ hl) (st1.h _ _ hf) (hr.kept st1.i fun a _ o e => st1.h a o e) (dpa_append (dpa_mono st1.i _ _ hv) (.cons hdv .nil))
        have gn : Hi1 g = none := by
          obtain ⟨_, _, _, _, hn, _, _⟩ := f1
          exact hn g (by simp)
        have gB : g ∈ B0 ∨ H0 g = none := b1 g (by simp)
        obtain ⟨_, _, _, _, b2', b3', b4'⟩ := (owF X.K Hi0 H0 B0 l j).step A st1
        refine q σ Hi1 _ st1.i (En.mono st1.i) (fun a o e => ?_) ⟨_, f2, b1, b2.trans st1.i, fun a o h1 h2 => ?_, ?_, hj⟩
        · rw [upd_ne (ne_of_none e gn)]; exact st1.s a o e
        · have ag : a ≠ g := by
            intro z
            subst z
            rcases gB with z | z
            · exact h1 z
            · rw [z] at h2; cases h2
          rw [upd_ne ag]
          exact st1.h _ _ (b3 a o h1 h2)
        · intro a h1 h2 h3
          refine st1.n a ?_ (b4 a h1 h2 h3)
          cases q0 : H0 a with
          | none => exact absurd q0 h2
          | some o => rw [b3 a o h1 q0]; exact fun z => nomatch z
      · cases h')
theorem not_own {B : List Addr} {a : Addr} (b : ∀ a ∈ B, a ∈ B0 ∨ H0 a = none) (h1 : a ∉ B0) (h2 : H0 a ≠ none) : a ∉ B := fun z => (b a z).elim h1 h2
theorem psd_pop {i : Nat} {x : Str} {pos' : Pos} (hN : X.N.Nodup) (hi : X.N[i]? = some x) (hx : Loc X.env.scope x) (fr : (i != j) = true) (hv : PE X (.Name nm p) (tVar j))
    (hbase : attributeBase (.Name nm p) "pop" X.env (eval (.Name nm p) X.env) = eval (.Name nm p) X.env := by rfl) (hline : (p2.endLine == p3.line) = true := by rfl)
    (hs : swapsWith (.Call (.Attribute (.Name nm p) "pop" p2) [] [] p3) (some (.Name x pos')) pos.line X.env = pure false := by rfl) (hf : X.fn x = true ∨ X.env.scope.names.lookup x = some .local := by first | exact .inl rfl | exact .inr rfl | assumption) :
    PS X (.Assign [.Name x pos'] (.Call (.Attribute (.Name nm p) "pop" p2) [] [] p3) pos) (tDS X.K (owF X.K Hi0 H0 B0 l j) (sPop i)) :=
  ps_w (ps_set hN hi hx (pe_bm0 PySem.F.plainAttrs_list PySem.F.slot_list_pop PySem.F.type_list_pop mt_pop hv hbase hline) hs hf) (by
    rintro E σ H ⟨D, L, Hi, r, En, sm, A, h, q⟩
    match L, A, h with
    | (k, xs) :: rr, A, h =>
      cases h
      obtain ⟨B, f, b1, b2, b3, b4, hj⟩ := A
      obtain ⟨ff, g, fs, AA, vs, hB, hl, hf, hg, hd, hr⟩ := frs_top f
      obtain ⟨_, _, _, nd, hn, _, _⟩ := f
      subst hB
      rw [List.nodup_cons, List.nodup_cons, List.nodup_cons] at nd
      obtain ⟨n1, n2, n3, n4⟩ := nd
      have lf : l ≠ ff := fun z => n1 (by rw [z]; simp)
      have lg : l ≠ g := fun z => n1 (by rw [z]; simp)
      have fg : ff ≠ g := fun z => n2 (by rw [z]; simp)
      have fA : ff ∉ AA := fun z => n2 (List.mem_cons_of_mem _ z)
      have lA : l ∉ AA := fun z => n1 (by simp [z])
      have hif : Hi ff = none := hn ff (by simp)
      have hig : Hi g = none := hn g (by simp)
      refine ⟨.ref l, hj, .inl ⟨rfl, _, SqL.of hl⟩, l, _, .ref ff, rfl, rfl, hl, ?_, ?_⟩
      · rw [List.length_append, List.length_singleton, Nat.add_sub_cancel, List.getElem?_append_right (Nat.le_refl _), Nat.sub_self]
        rfl
      · have m1 : Same Hi (upd Hi g (.lst vs)) := same_new hig _
        have hif2 : (upd Hi g (.lst vs)) ff = none := by rw [upd_ne fg]; exact hif
        have m2 : Same Hi (upd (upd Hi g (.lst vs)) ff (.lst [.str k, .ref g])) := m1.trans (same_new hif2 _)
        have hout : ∀ a, a ≠ ff → a ≠ g → (upd (upd Hi g (.lst vs)) ff (.lst [.str k, .ref g])) a = Hi a := fun a h1 h2 => by rw [upd_ne h1, upd_ne h2]
        have dg : (upd (upd Hi g (.lst vs)) ff (.lst [.str k, .ref g])) g = some (.lst vs) := by rw [upd_ne (Ne.symm fg), upd_same]
        have s2 : Same (upd (upd Hi g (.lst vs)) ff (.lst [.str k, .ref g])) (upd H l (.lst ((fs.reverse.map V.ref ++ [V.ref ff]).dropLast))) := fun a o e => by
          by_cases h1 : a = ff
          · subst h1
            rw [upd_same] at e
            rw [upd_ne (Ne.symm lf), hf]; exact e
          · by_cases h2 : a = g
            · subst h2
              rw [dg] at e
              rw [upd_ne (Ne.symm lg), hg]; exact e
            · rw [hout a h1 h2] at e
              rw [upd_ne (ne_of_none e (hn l (by simp)))]
              exact sm a o e
        have dl : (fs.reverse.map V.ref ++ [V.ref ff]).dropLast = fs.reverse.map V.ref := List.dropLast_concat
        rw [dl] at s2 ⊢
        refine q _ (upd (upd Hi g (.lst vs)) ff (.lst [.str k, .ref g])) _ m2 ((En.mono m2).set (.lst (.of upd_same) (.cons (.str k) (.cons (.lst (.of dg) (dpa_mono m2 _ _ hd)) .nil)))) s2 ?_
        refine ⟨l :: AA, ⟨fs, AA, rfl, List.nodup_cons.mpr ⟨lA, n4⟩, fun a ha => ?_, upd_same, hr.kept m2 fun a ha o e => ?_⟩, fun a ha => b1 a ?_, b2.trans m2, fun a o h1 h2 => ?_, fun a h1 h2 h3 => ?_, ?_⟩
        · have e1 : a ≠ ff := fun z => by
            subst z
            rcases List.mem_cons.mp ha with z | z
            · exact lf z.symm
            · exact fA z
          have e2 : a ≠ g := fun z => by
            subst z
            rcases List.mem_cons.mp ha with z | z
            · exact lg z.symm
            · exact n3 z
          rw [hout a e1 e2]
          refine hn a ?_
          rcases List.mem_cons.mp ha with z | z
          · rw [z]; simp
          · simp [z]
        · rw [upd_ne (fun z => lA (by rw [← z]; exact ha))]; exact e
        · rcases List.mem_cons.mp ha with z | z
          · rw [z]; simp
          · simp [z]
        · have nb := not_own b1 h1 (a := a) (by rw [h2]; exact fun z => nomatch z)
          rw [upd_ne (fun z => nb (by rw [z]; simp))]
          exact b3 a o h1 h2
        · have nb := not_own b1 h1 (a := a) h2
          rw [hout a (fun z => nb (by rw [z]; simp)) (fun z => nb (by rw [z]; simp))]
          exact b4 a h1 h2 h3
        · have hij : i ≠ j := by simpa using fr
          rw [List.getElem?_set_ne hij]
          exact hj)
/-- frames.append([e, []]) -/
theorem psd_push (hv : PE X (.Name nm p) (tVar j)) (he : PE X e (tD X.K (owF X.K Hi0 H0 B0 l j) fe)) (hbase : attributeBase (.Name nm p) "append" X.env (eval (.Name nm p) X.env) = eval (.Name nm p) X.env := by rfl)
    (hfew : ((backTo p3 (starEach [.List [e, .List [] p8] p4] X.env)).all (fun x => !x.1) && (backToKw p3 (keywordEach [] X.env)).all (fun x => x.1.isSome) && decide ([Expr.List [e, .List [] p8] p4].length + ([] : List Keyword).length + (if ([] : List Keyword).isEmpty then 0 else 1) < 30)) = true := by rfl)
    (hline : (p2.endLine == p3.line) = true := by rfl) (hs : starEach [.List [e, .List [] p8] p4] X.env = (false, eval (.List [e, .List [] p8] p4) X.env) :: starEach [] X.env := by rfl) (hplain : (backTo p3 (starEach [] X.env)).any (·.1) = false := by rfl)
    (hs2 : starEach [e, .List [] p8] X.env = (false, eval e X.env) :: starEach [.List [] p8] X.env := by rfl) (hs3 : starEach [.List [] p8] X.env = (false, eval (.List [] p8) X.env) :: starEach [] X.env := by rfl)
    (hsw : swapsWith (.Call (.Attribute (.Name nm p) "append" p2) [.List [e, .List [] p8] p4] [] p3) none pos.line X.env = pure false := by rfl) :
    PS X (.Expr (.Call (.Attribute (.Name nm p) "append" p2) [.List [e, .List [] p8] p4] [] p3) pos) (tDS X.K (owF X.K Hi0 H0 B0 l j) (sPush fe)) :=
  ps_w (ps_expr (pe_bm PySem.F.plainAttrs_list PySem.F.slot_list_append PySem.F.type_list_append mt_append hv (pa_cons (pe_lst (pa_cons he (pa_cons (pe_lst pa_nil) pa_nil hs3) hs2)) pa_nil hs) hbase hfew hline hs hplain) hsw) (by
    rintro E σ H ⟨D, L, Hi, r, En, sm, A, h, q⟩
    obtain ⟨d, hd, h⟩ := bind_some h
    obtain ⟨k, hk, h⟩ := bind_some h
    split at h
    · rename_i hz
      cases h
      have A' := A
      obtain ⟨B, f, b1, b2, b3, b4, hj⟩ := A'
      obtain ⟨fs0, hl0, hn0⟩ := f.lst
      refine ⟨.ref l, hj, .inl ⟨rfl, _, SqL.of hl0⟩, ?_⟩
      refine ⟨D, L, Hi, d, En, sm, A, hd, fun v Hi1 H1 st1 hdv => ?_⟩
      have f1 := f.step st1
      have th := f1.there
      obtain ⟨fs, AA, hB, nd, hn, hl, hr⟩ := f1
      subst hB
      refine ⟨Nat.zero_le _, fun g hg => ⟨by show 2 ≤ sizeLine; decide, fun ff hff => ?_⟩⟩
      cases d with
      | str y =>
        have ey : y = k := Option.some.inj hk
        subst ey
        cases dp_str hdv
        have gl : l ≠ g := fun z => th l (by simp) (by rw [z]; exact hg)
        have fg : ff ≠ g := fun z => by rw [z, upd_same] at hff; cases hff
        have hff1 : H1 ff = none := by rw [upd_ne fg] at hff; exact hff
        have fl : l ≠ ff := fun z => th l (by simp) (by rw [z]; exact hff1)
        have nA : ∀ a ∈ AA, a ≠ g ∧ a ≠ ff := fun a ha => ⟨fun z => th a (by simp [ha]) (by rw [z]; exact hg), fun z => th a (by simp [ha]) (by rw [z]; exact hff1)⟩
        refine ⟨l, fs.reverse.map V.ref, .ref ff, rfl, rfl, ?_, ?_, ?_⟩
        · rw [upd_ne fl, upd_ne gl]; exact hl
        · rw [List.length_map, List.length_reverse, hr.len]; exact hz
        · obtain ⟨_, _, _, c2, c3, c4, _⟩ := (owF X.K Hi0 H0 B0 l j).step A st1
          have sm3 : Same Hi1 (upd (upd (upd H1 g (.lst [])) ff (.lst [.str y, .ref g])) l (.lst (fs.reverse.map V.ref ++ [.ref ff]))) := fun a o e => by
            rw [upd_ne (ne_of_none e (hn l (by simp))), upd_ne (ne_of_none e (Same.free st1.s hff1)), upd_ne (ne_of_none e (Same.free st1.s hg))]
            exact st1.s a o e
          have own : ∀ a, H1 a = none → a ∈ B0 ∨ H0 a = none := fun a z => by
            by_cases hb : a ∈ B0
            · exact .inl hb
            · refine .inr ?_
              cases q0 : H0 a with
              | none => rfl
              | some o => rw [c3 a o hb q0] at z; cases z
          refine q σ Hi1 _ st1.i (En.mono st1.i) sm3 ⟨l :: ff :: g :: AA, ⟨ff :: fs, ff :: g :: AA, rfl, ?_, ?_, ?_, .cons ?_ ?_ .nil (hr.kept (Same.refl _) fun a ha o e => ?_)⟩, ?_, c2, ?_, c4, hj⟩
          · rw [List.nodup_cons] at nd
            rw [List.nodup_cons, List.nodup_cons, List.nodup_cons]
            refine ⟨?_, ?_, ?_, nd.2⟩
            · simp only [List.mem_cons, not_or]; exact ⟨fl, gl, nd.1⟩
            · simp only [List.mem_cons, not_or]; exact ⟨fg, fun z => (nA ff z).2 rfl⟩
            · exact fun z => (nA g z).1 rfl
          · intro a ha
            rcases List.mem_cons.mp ha with rfl | ha
            · exact hn _ (by simp)
            · rcases List.mem_cons.mp ha with rfl | ha
              · exact Same.free st1.s hff1
              · rcases List.mem_cons.mp ha with rfl | ha
                · exact Same.free st1.s hg
                · exact hn a (by simp [ha])
          · rw [upd_same, List.reverse_cons, List.map_append]
            rfl
          · rw [upd_ne (Ne.symm fl), upd_same]
          · rw [upd_ne (Ne.symm gl), upd_ne (Ne.symm fg), upd_same]
          · have nl : a ≠ l := fun z => by
              rw [List.nodup_cons] at nd
              exact nd.1 (by rw [← z]; exact ha)
            rw [upd_ne nl, upd_ne (nA a ha).2, upd_ne (nA a ha).1]
            exact e
          · intro a ha
            rcases List.mem_cons.mp ha with rfl | ha
            · exact b1 _ (by simp)
            · rcases List.mem_cons.mp ha with rfl | ha
              · exact own _ hff1
              · rcases List.mem_cons.mp ha with rfl | ha
                · exact own _ hg
                · exact b1 a (by simp [ha])
          · intro a o h1 h2
            have nb := not_own b1 h1 (a := a) (by rw [h2]; exact fun z => nomatch z)
            have e1 := c3 a o h1 h2
            rw [upd_ne (fun z => nb (by rw [z]; simp)), upd_ne (ne_of_none e1 hff1), upd_ne (ne_of_none e1 hg)]
            exact e1
      | _ => exact nomatch hk
    · cases h)
/-- behind a def that worked on the pile -/
theorem owF_call {K : PySem.W.Frag} {Hi1 H1 Hi2 H2 : Hp} {B B' : List Addr} {L L' : Fs} {σ : L2.St} (f : FrAt K Hi1 H1 l L B) (b1 : ∀ a ∈ B, a ∈ B0 ∨ H0 a = none) (b2 : Same Hi0 Hi1) (b3 : ∀ a o, a ∉ B0 → H0 a = some o → H1 a = some o) (b4 : ∀ a, a ∉ B0 → H0 a ≠ none → Hi0 a = none → Hi1 a = none) (hj : σ[j]? = some (some (.ref l)))
    (m1 : Same Hi1 Hi2) (c1 : ∀ a o, a ∉ B → H1 a = some o → H2 a = some o) (c2 : ∀ a, a ∉ B → H1 a ≠ none → Hi1 a = none → Hi2 a = none) (f2 : FrAt K Hi2 H2 l L' B') (c3 : ∀ a ∈ B', a ∈ B ∨ H1 a = none) : (owF K Hi0 H0 B0 l j).At Hi2 H2 σ L' := by
  refine ⟨B', f2, fun a ha => ?_, b2.trans m1, fun a o h1 h2 => c1 a o (not_own b1 h1 (by rw [h2]; exact fun z => nomatch z)) (b3 a o h1 h2), fun a h1 h2 h3 => c2 a (not_own b1 h1 h2) ?_ (b4 a h1 h2 h3), hj⟩
  · rcases c3 a ha with z | z
    · exact b1 a z
    · by_cases hb : a ∈ B0
      · exact .inl hb
      · refine .inr ?_
        cases q0 : H0 a with
        | none => rfl
        | some o => rw [b3 a o hb q0] at z; cases z
  · cases q0 : H0 a with
    | none => exact absurd q0 h2
    | some o => rw [b3 a o h1 q0]; exact fun z => nomatch z
theorem psd_callF {n k m : Nat} {F : Fs → List PyData → Option (PyData × Fs)} {x : Str} (C : DefOkF X.prog X.w X.K X.mg X.base m x n F) (hr : Room k X.A) (hjk : m ≤ k) (hv : PE X (.Name nm p) (tVar j)) (ha : PA X es (tDA X.K (owF X.K Hi0 H0 B0 l j) fas)) (hg : Gl X x := by rfl) (hdb : (x == ("__debug__" : Str)) = false := by decide)
    (he : starEach (.Name nm p :: es) X.env = (false, eval (.Name nm p) X.env) :: starEach es X.env := by rfl) (hpl : (backTo p3 (starEach es X.env)).any (·.1) = false := by rfl)
    (hsw : swapsWith (.Call (.Name x p2) (.Name nm p :: es) [] p3) none pos.line X.env = pure false := by rfl) :
    PS X (.Expr (.Call (.Name x p2) (.Name nm p :: es) [] p3) pos) (tDS X.K (owF X.K Hi0 H0 B0 l j) (sCallF n F fas)) := by
  obtain ⟨f, fd, ps, G, mm, kp, b⟩ := C
  refine ps_w (ps_expr (pe_call G (hr.mono hjk) hg mm kp b .nil pass0 (pa_cons hv ha he) hdb he hpl) hsw) ?_
  rintro E σ H ⟨D, L, Hi, r, En, sm, A, h, q⟩
  obtain ⟨ds, hd, h⟩ := bind_some h
  split at h
  · rename_i hz
    obtain ⟨pr, hL, h⟩ := bind_some h
    cases h
    have hj : σ[j]? = some (some (.ref l)) := let ⟨_, _, _, _, _, _, z⟩ := A; z
    refine ⟨.ref l, hj, D, L, Hi, ds, En, sm, A, hd, fun vs Hi1 H1 st1 hvs => ?_⟩
    obtain ⟨B, f1, b1, b2, b3, b4, hj1⟩ := (owF X.K Hi0 H0 B0 l j).step A st1
    show spF X.K n F ((.ref l :: vs) ++ []) H1 (fun _ H1 => E.nx σ H1) E0
    rw [List.append_nil]
    exact ⟨l, vs, Hi1, L, pr.2, ds, B, pr.1, rfl, st1.s, f1, hvs, hz, hL, fun v Hi2 H2 B' m1 m2 c1 c2 f2 c3 _ =>
      q σ Hi2 H2 (st1.i.trans m1) (En.mono (st1.i.trans m1)) m2 (owF_call f1 b1 b2 b3 b4 hj1 m1 c1 c2 f2 c3)⟩
  · cases h
theorem psd_setF {i n k m : Nat} {F : Fs → List PyData → Option (PyData × Fs)} {x y : Str} {pos' : Pos} (C : DefOkF X.prog X.w X.K X.mg X.base m x n F) (hr : Room k X.A) (hjk : m ≤ k) (hN : X.N.Nodup) (hi : X.N[i]? = some y) (hy : Loc X.env.scope y) (fr : (i != j) = true)
    (hv : PE X (.Name nm p) (tVar j)) (ha : PA X es (tDA X.K (owF X.K Hi0 H0 B0 l j) fas)) (hg : Gl X x := by rfl) (hdb : (x == ("__debug__" : Str)) = false := by decide)
    (he : starEach (.Name nm p :: es) X.env = (false, eval (.Name nm p) X.env) :: starEach es X.env := by rfl) (hpl : (backTo p3 (starEach es X.env)).any (·.1) = false := by rfl)
    (hs : swapsWith (.Call (.Name x p2) (.Name nm p :: es) [] p3) (some (.Name y pos')) pos.line X.env = pure false := by rfl) (hf : X.fn y = true ∨ X.env.scope.names.lookup y = some .local := by first | exact .inl rfl | exact .inr rfl | assumption) :
    PS X (.Assign [.Name y pos'] (.Call (.Name x p2) (.Name nm p :: es) [] p3) pos) (tDS X.K (owF X.K Hi0 H0 B0 l j) (sSetF i n F fas)) := by
  obtain ⟨f, fd, ps, G, mm, kp, b⟩ := C
  refine ps_w (ps_set hN hi hy (pe_call G (hr.mono hjk) hg mm kp b .nil pass0 (pa_cons hv ha he) hdb he hpl) hs hf) ?_
  rintro E σ H ⟨D, L, Hi, r, En, sm, A, h, q⟩
  obtain ⟨ds, hd, h⟩ := bind_some h
  split at h
  · rename_i hz
    obtain ⟨pr, hL, h⟩ := bind_some h
    cases h
    have hj : σ[j]? = some (some (.ref l)) := let ⟨_, _, _, _, _, _, z⟩ := A; z
    refine ⟨.ref l, hj, D, L, Hi, ds, En, sm, A, hd, fun vs Hi1 H1 st1 hvs => ?_⟩
    obtain ⟨B, f1, b1, b2, b3, b4, hj1⟩ := (owF X.K Hi0 H0 B0 l j).step A st1
    show spF X.K n F ((.ref l :: vs) ++ []) H1 (fun v H1 => gName i v σ H1 E.nx) E0
    rw [List.append_nil]
    exact ⟨l, vs, Hi1, L, pr.2, ds, B, pr.1, rfl, st1.s, f1, hvs, hz, hL, fun v Hi2 H2 B' m1 m2 c1 c2 f2 c3 hv2 =>
      q (σ.set i (some v)) Hi2 H2 (st1.i.trans m1) ((En.mono (st1.i.trans m1)).set hv2) m2 ((owF X.K Hi0 H0 B0 l j).set (owF_call f1 b1 b2 b3 b4 hj1 m1 c1 c2 f2 c3) fr)⟩
  · cases h
/-- frames = []; then the rest -/
theorem pss_newF {fr : FS Fs} {rest : List Stmt} (hN : X.N.Nodup) (hi : X.N[j]? = some nm) (hx : Loc X.env.scope nm)
    (hrest : ∀ l, PSs X rest (tDS X.K (owF X.K Hi0 H0 [] l j) fr)) (hs : swapsWith (.List [] p3) (some (.Name nm p)) pos.line X.env = pure false := by rfl) (hf : X.fn nm = true ∨ X.env.scope.names.lookup nm = some .local := by first | exact .inl rfl | exact .inr rfl | assumption) :
    PSs X (.Assign [.Name nm p] (.List [] p3) pos :: rest) (tDS X.K (ow0 Hi0 H0) (sNewF j fr)) := by
  have hR : PSs X rest (fun E σ H => ∃ l, tDS X.K (owF X.K Hi0 H0 [] l j) fr E σ H) := ⟨fun pins s σ H D I ⟨l, h⟩ => (hrest l).run pins s σ H D I h⟩
  refine pss_w (pss_cons (ps_set hN hi hx (pe_lst pa_nil) hs hf) hR) ?_
  rintro E σ H ⟨D, s, Hi, r, En, sm, A, h, q⟩
  unfold sNewF at h
  split at h
  · rename_i hz
    refine ⟨Nat.zero_le _, fun l hl => ⟨l, ?_⟩⟩
    have st : Step Hi0 H0 Hi H := A
    have h0 : H0 l = none := Same.free st.h hl
    have hi1 : Hi l = none := Same.free st.s hl
    have A2 : (owF X.K Hi0 H0 [] l j).At Hi (upd H l (.lst [])) (σ.set j (some (.ref l))) [] := by
      refine ⟨[l], ⟨[], [], rfl, by simp, fun a ha => ?_, upd_same, .nil⟩, fun a ha => .inr ?_, st.i, fun a o _ h2 => ?_, fun a _ h2 h3 => st.n a h2 h3, ?_⟩
      · have e : a = l := by simpa using ha
        rw [e]; exact hi1
      · have e : a = l := by simpa using ha
        rw [e]; exact h0
      · rw [upd_ne (ne_of_none h2 h0)]; exact st.h a o h2
      · rw [List.getElem?_set_self (by rw [En.len]; exact hz)]
    have sm2 : Same Hi (upd H l (.lst [])) := fun x o e => by rw [upd_ne (ne_of_none e hi1)]; exact sm x o e
    cases hfr : fr (D.set j none) [] with
    | none => rw [hfr] at h; cases h
    | some rr =>
      rw [hfr] at h
      refine ⟨D.set j none, [], Hi, rr, En.drop, sm2, A2, hfr, ?_⟩
      cases rr with
      | nx D' s' => cases h
      | ct D' s' => cases h
      | bk D' s' => cases h
      | ro s' => cases h
      | rt d s' =>
        cases h
        intro σ' v Hi' H' m a hp
        obtain ⟨B, _, _, c2, c3, c4, _⟩ := a
        exact q σ' v Hi' H' m ⟨c2, fun x o e => c3 x o (by simp) e, m, fun x h1 h2 => c4 x (by simp) h1 h2⟩ hp
  · cases h
end
section
variable {P : Program} {w : World} {K : PySem.W.Frag} {mg : Str → Option Value} {base : Heap}
/-- THE RULE for a def that works on a pile -/
theorem def_okF {x : Str} {st : Stmt} {f : Addr} {fd : FuncData} {y : Str} {N ps : List Str} {k : Nat} {fb : FS Fs} (F : At1 K mg x st f fd) (bd : Binds K fd (y :: ps) []) (S : FnScope (y :: N) (y :: ps) (defScope st))
    (hb : ∀ (cdv : Value) (A : Around) (outer : List Env) (s : Shared) (H : Hp) (E : XK) (Hi : Hp) (B : List Addr) (l : Addr), Room k (A.deeper (envOfC x (defScope st) s.heap.objs.size f cdv)) →
      PSs (cxOf CX0 P w K mg base (y :: N) x (defScope st) f cdv A outer s H E).nox (defBody st) (tDS K (owF K Hi H B l 0) fb)) : DefOkF P w K mg base (k + 1) x ps.length (runP N.length fb) := by
  refine ⟨f, fd, y :: ps, F.fn.ok S (fun vs H Q E ⟨l, vs', Hi, L, L', ds, B, r, e, _, _, hv, hl, _⟩ => ?_) (fun cdv A outer s H vs Q E hr ⟨l, vs', Hi, L, L', ds, B, r, e, sm, fa, hv, hn, hF, q⟩ => ⟨_, hb cdv A outer s H E Hi B l hr, ?_⟩), F.m, F.fn.kp, bd⟩
  · rw [e, List.length_cons, List.length_cons, dpa_len hv, hl]
  · subst e
    have En : EnvD K Hi (L2.start (y :: N) (.ref l :: vs')) (none :: startD N.length ds) := by
      have e0 := start_env (N := N) hv
      have es : L2.start (y :: N) (.ref l :: vs') = some (.ref l) :: L2.start N vs' := by
        unfold L2.start
        simp
      rw [es]
      refine ⟨by rw [List.length_cons, List.length_cons, e0.len], fun i d h => ?_⟩
      cases i with
      | zero => simp at h
      | succ i => exact e0.get i d (by simpa using h)
    have A0 : (owF K Hi H B l 0).At Hi H (L2.start (y :: N) (.ref l :: vs')) L := by
      refine ⟨B, fa, fun a ha => .inl ha, Same.refl _, fun _ _ _ h => h, fun _ _ _ h => h, ?_⟩
      unfold L2.start
      rfl
    unfold runP at hF
    split at hF
    · rename_i D' L2 hd
      cases hF
      exact ⟨_, L, Hi, _, En, sm, A0, hd, fun σ' Hi' H' m _ m2 ⟨B', c1, c2, c3, c4, c5, c6⟩ => q .non Hi' H' B' m m2 c4 c5 c1 c2 .non⟩
    · rename_i d' L2 hd
      cases hF
      exact ⟨_, L, Hi, _, En, sm, A0, hd, fun σ' v Hi' H' m2 ⟨B', c1, c2, c3, c4, c5, c6⟩ hp => q v Hi' H' B' c3 m2 c4 c5 c1 c2 hp⟩
    · cases hF
end
end DL

namespace Pg
open PySem PySem.Spec PyProof.Rows L2 DL
def top (i : Nat) : Stmt := PySem.Challenge.pw_plainglass_k52_whole_between.main.body.getD i (.Pass ⟨0, 0, 0, 0⟩)
abbrev s_figures : Stmt := top 1
abbrev s_named : Stmt := top 3
abbrev s_alike : Stmt := top 4
abbrev s_gather_members : Stmt := top 6
abbrev s_gather_row : Stmt := top 7
abbrev s_gather : Stmt := top 8
abbrev s_between : Stmt := top 9
abbrev s_cell : Stmt := top 11
abbrev s_mix : Stmt := top 12
abbrev s_lnamed : Stmt := top 15
abbrev s_small_value : Stmt := top 16
abbrev s_put_in : Stmt := top 17
abbrev s_shut : Stmt := top 18
abbrev s_clean : Stmt := top 19
abbrev s_kind : Stmt := top 20
abbrev s_lalike : Stmt := top 21
abbrev s_turned : Stmt := top 22
abbrev s_ways : Stmt := top 23
abbrev s_place : Stmt := top 24
abbrev s_index : Stmt := top 25
abbrev s_get : Stmt := top 26
abbrev s_with : Stmt := top 27
abbrev s_grown : Stmt := top 28
abbrev s_without : Stmt := top 29
abbrev s_replaced : Stmt := top 30
abbrev s_done : Stmt := top 31
abbrev s_deep : Stmt := top 32
abbrev s_size : Stmt := top 33
abbrev s_fits : Stmt := top 34
abbrev s_deed : Stmt := top 35
abbrev s_named_ways : Stmt := top 36
abbrev s_law : Stmt := top 37
def b_figures  : FS Unit :=
  (sRet (fCodes 1 (fVar 0)))
def lb_named_1  : FS Unit :=
  (sSeq (sIf (fTst (fBin gEq (fBin gIx (fVar 3) (fC (.int 0))) (fVar 1)))
  (sRet (fVar 2))
  sNil)
  (sAsg 2 (fBin gAdd (fVar 2) (fC (.int 1)))))
def b_named  : FS Unit :=
  (sSeq (sAsg 2 (fC (.int 0)))
  (sSeq (sFor itemsT (st1 3) (fVar 0)
  (lb_named_1))
  (sRet (fUn gNeg (fC (.int 1))))))
def lb_alike_1 (F_alike_ : List PyData → Option PyData) (F_named : List PyData → Option PyData) : FS Unit :=
  (sSeq (sAsg 4 (fCall 2 F_named (fCons (fBin gIx (fVar 1) (fC (.int 1))) (fCons (fBin gIx (fVar 3) (fC (.int 0))) fNil))))
  (sIf (fOrT (fTst (fBin (gCmp pLt) (fVar 4) (fC (.int 0)))) (fNotT (fTru (fCall 2 F_alike_ (fCons (fBin gIx (fVar 3) (fC (.int 1))) (fCons (fBin gIx (fBin gIx (fBin gIx (fVar 1) (fC (.int 1))) (fVar 4)) (fC (.int 1))) fNil))))))
  (sRet (fC (.bool false)))
  sNil))
def b_alike (F_alike_ : List PyData → Option PyData) (F_named : List PyData → Option PyData) : FS Unit :=
  (sSeq (sIf (fOrT (fNotT (fTru (fUn gIsTup (fVar 0)))) (fOrT (fNotT (fTru (fUn gIsTup (fVar 1)))) (fTst (fBin gNe (fBin gIx (fVar 0) (fC (.int 0))) (fBin gIx (fVar 1) (fC (.int 0)))))))
  (sRet (fBin gEq (fVar 0) (fVar 1)))
  sNil)
  (sSeq (sIf (fTst (fBin gNotIn (fBin gIx (fVar 0) (fC (.int 0))) (fTup (fCons (fC (.str "row")) (fCons (fC (.str "fields")) fNil)))))
  (sRet (fBin gEq (fVar 0) (fVar 1)))
  sNil)
  (sSeq (sIf (fTst (fBin gNe (fUn gLen (fBin gIx (fVar 0) (fC (.int 1)))) (fUn gLen (fBin gIx (fVar 1) (fC (.int 1))))))
  (sRet (fC (.bool false)))
  sNil)
  (sSeq (sIf (fTst (fBin gEq (fBin gIx (fVar 0) (fC (.int 0))) (fC (.str "row"))))
  (sRet (fUn gAll (fComp range1 2 (fUn gLen (fBin gIx (fVar 0) (fC (.int 1)))) fYes (fCall 2 F_alike_ (fCons (fBin gIx (fBin gIx (fVar 0) (fC (.int 1))) (fVar 2)) (fCons (fBin gIx (fBin gIx (fVar 1) (fC (.int 1))) (fVar 2)) fNil))))))
  sNil)
  (sSeq (sFor itemsT (st1 3) (fBin gIx (fVar 0) (fC (.int 1)))
  (lb_alike_1 F_alike_ F_named))
  (sRet (fC (.bool true))))))))
def lb_gather_members_1 (F_named : List PyData → Option PyData) (FO_gather : List PyData → List PyData → Option (List PyData)) : FS (List PyData) :=
  (sSeq (sAsg 5 (fCall 2 F_named (fCons (fVar 3) (fCons (fBin gIx (fVar 4) (fC (.int 0))) fNil))))
  (sIf (fTst (fBin (gCmp pLt) (fVar 5) (fC (.int 0))))
  (sApp (fTup (fCons (fC (.str "remove")) (fCons (fBin gAdd (fVar 1) (fTup (fCons (fBin gIx (fVar 4) (fC (.int 0))) fNil))) fNil))))
  (sCallO 3 FO_gather (fCons (fBin gAdd (fVar 1) (fTup (fCons (fBin gIx (fVar 4) (fC (.int 0))) fNil))) (fCons (fBin gIx (fVar 4) (fC (.int 1))) (fCons (fBin gIx (fBin gIx (fVar 3) (fVar 5)) (fC (.int 1))) fNil))))))
def lb_gather_members_2 (F_named : List PyData → Option PyData) (FO_gather : List PyData → List PyData → Option (List PyData)) : FS (List PyData) :=
  (sIf (fTst (fBin (gCmp pLt) (fCall 2 F_named (fCons (fVar 2) (fCons (fBin gIx (fVar 4) (fC (.int 0))) fNil))) (fC (.int 0))))
  (sApp (fTup (fCons (fC (.str "add")) (fCons (fBin gAdd (fVar 1) (fTup (fCons (fBin gIx (fVar 4) (fC (.int 0))) fNil))) (fCons (fBin gIx (fVar 4) (fC (.int 1))) fNil)))))
  sNil)
def b_gather_members (F_named : List PyData → Option PyData) (FO_gather : List PyData → List PyData → Option (List PyData)) : FS (List PyData) :=
  (sSeq (sFor itemsT (st1 4) (fVar 2)
  (lb_gather_members_1 F_named FO_gather))
  (sFor itemsT (st1 4) (fVar 3)
  (lb_gather_members_2 F_named FO_gather)))
def lb_gather_row_1 (FO_gather : List PyData → List PyData → Option (List PyData)) (F_figures : List PyData → Option PyData) : FS (List PyData) :=
  (sCallO 3 FO_gather (fCons (fBin gAdd (fVar 1) (fTup (fCons (fUn gTupleOf (fCall 1 F_figures (fCons (fVar 5) fNil))) fNil))) (fCons (fBin gIx (fVar 2) (fVar 5)) (fCons (fBin gIx (fVar 3) (fVar 5)) fNil))))
def lb_gather_row_2 (FO_gather : List PyData → List PyData → Option (List PyData)) (F_figures : List PyData → Option PyData) : FS (List PyData) :=
  (sApp (fTup (fCons (fC (.str "remove")) (fCons (fBin gAdd (fVar 1) (fTup (fCons (fUn gTupleOf (fCall 1 F_figures (fCons (fBin gSub (fBin gSub (fUn gLen (fVar 2)) (fC (.int 1))) (fVar 5)) fNil))) fNil))) fNil))))
def lb_gather_row_3 (FO_gather : List PyData → List PyData → Option (List PyData)) (F_figures : List PyData → Option PyData) : FS (List PyData) :=
  (sApp (fTup (fCons (fC (.str "add")) (fCons (fBin gAdd (fVar 1) (fTup (fCons (fUn gTupleOf (fCall 1 F_figures (fCons (fVar 5) fNil))) fNil))) (fCons (fBin gIx (fVar 3) (fVar 5)) fNil)))))
def b_gather_row (FO_gather : List PyData → List PyData → Option (List PyData)) (F_figures : List PyData → Option PyData) : FS (List PyData) :=
  (sSeq (sAsg 4 (fBin gMin (fUn gLen (fVar 2)) (fUn gLen (fVar 3))))
  (sSeq (sFor range1 (st1 5) (fVar 4)
  (lb_gather_row_1 FO_gather F_figures))
  (sSeq (sFor range1 (st1 5) (fBin gSub (fUn gLen (fVar 2)) (fVar 4))
  (lb_gather_row_2 FO_gather F_figures))
  (sFor2 (st1 5) (fVar 4) (fUn gLen (fVar 3))
  (lb_gather_row_3 FO_gather F_figures)))))
def b_gather (F_alike_ : List PyData → Option PyData) (FO_gather_members : List PyData → List PyData → Option (List PyData)) (FO_gather_row : List PyData → List PyData → Option (List PyData)) : FS (List PyData) :=
  (sSeq (sIf (fTru (fCall 2 F_alike_ (fCons (fVar 2) (fCons (fVar 3) fNil))))
  (sRet (fC .none))
  sNil)
  (sSeq (sAsg 4 (fTup (fCons (fC (.str "")) (fCons (fC (.str "")) fNil))))
  (sSeq (sIf (fAndT (fTru (fUn gIsTup (fVar 2))) (fTru (fUn gIsTup (fVar 3))))
  (sAsg 4 (fTup (fCons (fBin gIx (fVar 2) (fC (.int 0))) (fCons (fBin gIx (fVar 3) (fC (.int 0))) fNil))))
  sNil)
  (sSeq (sIf (fTst (fBin gEq (fVar 4) (fTup (fCons (fC (.str "fields")) (fCons (fC (.str "fields")) fNil)))))
  (sCallO 3 FO_gather_members (fCons (fVar 1) (fCons (fBin gIx (fVar 2) (fC (.int 1))) (fCons (fBin gIx (fVar 3) (fC (.int 1))) fNil))))
  (sIf (fTst (fBin gEq (fVar 4) (fTup (fCons (fC (.str "row")) (fCons (fC (.str "row")) fNil)))))
  (sCallO 3 FO_gather_row (fCons (fVar 1) (fCons (fBin gIx (fVar 2) (fC (.int 1))) (fCons (fBin gIx (fVar 3) (fC (.int 1))) fNil))))
  (sApp (fTup (fCons (fC (.str "replace")) (fCons (fVar 1) (fCons (fVar 3) fNil)))))))
  (sRet (fC .none))))))
def b_between (FO_gather : List PyData → List PyData → Option (List PyData)) : FS Unit :=
  (sNewL 2 fNil
  (sSeq (sCallO 3 FO_gather (fCons (fTup fNil) (fCons (fVar 0) (fCons (fVar 1) fNil))))
  sRo))
def b_cell  : FS Unit :=
  (sSeq (sIf (fTru (fVar 0))
  (sRet (fBin gIx (fVar 0) (fBin gMod (fVar 1) (fUn gLen (fVar 0)))))
  sNil)
  (sRet (fC (.int 0))))
def b_mix (F_cell : List PyData → Option PyData) : FS Unit :=
  (sSeq (sAsg 2 (fBin gMod (fBin gAdd (fCall 2 F_cell (fCons (fVar 0) (fCons (fVar 1) fNil))) (fBin gMul (fC (.int 104729)) (fBin gAdd (fVar 1) (fC (.int 1))))) (fC (.int 4294967291))))
  (sSeq (sAsg 2 (fBin gMod (fBin gMul (fVar 2) (fC (.int 48271))) (fC (.int 4294967279))))
  (sRet (fBin gMod (fBin gAdd (fBin gMul (fBin gFdiv (fVar 2) (fC (.int 64))) (fC (.int 69621))) (fVar 2)) (fC (.int 4294967231))))))
def b_lnamed  : FS Unit :=
  (sSeq (sIf (fTst (fBin (gCmp pLt) (fVar 0) (fC (.int 6))))
  (sRet (fBin gIx (fLst (fCons (fTup fNil) (fCons (fTup (fCons (fC (.int 97)) fNil)) (fCons (fTup (fCons (fC (.int 97)) (fCons (fC (.int 98)) fNil))) (fCons (fTup (fCons (fC (.int 126)) (fCons (fC (.int 47)) fNil))) (fCons (fTup (fCons (fC (.int 48)) fNil)) (fCons (fTup (fCons (fC (.int 233)) fNil)) fNil))))))) (fVar 0)))
  sNil)
  (sRet (fTup (fCons (fBin gAdd (fC (.int 98)) (fVar 0)) fNil))))
def b_small_value  : FS Unit :=
  (sSeq (sAsg 1 (fBin gMod (fVar 0) (fC (.int 6))))
  (sSeq (sAsg 2 (fBin gFdiv (fVar 0) (fC (.int 6))))
  (sSeq (sIf (fTst (fBin (gCmp pLt) (fVar 1) (fC (.int 3))))
  (sRet (fBin gIx (fLst (fCons (fC .none) (fCons (fC (.bool true)) (fCons (fC (.bool false)) fNil)))) (fVar 1)))
  sNil)
  (sSeq (sIf (fTst (fBin gEq (fVar 1) (fC (.int 3))))
  (sRet (fTup (fCons (fC (.str "text")) (fCons (fBin gIx (fLst (fCons (fTup (fCons (fC (.int 97)) fNil)) (fCons (fTup (fCons (fC (.int 34)) (fCons (fC (.int 10)) fNil))) (fCons (fTup fNil) (fCons (fTup (fCons (fC (.int 233)) (fCons (fC (.int 128512)) fNil))) fNil))))) (fBin gMod (fVar 2) (fC (.int 4)))) fNil))))
  sNil)
  (sSeq (sIf (fTst (fBin gEq (fVar 1) (fC (.int 4))))
  (sRet (fTup (fCons (fC (.str "number")) (fCons (fBin gAdd (fC (.int 1)) (fBin gMod (fVar 2) (fC (.int 9)))) (fCons (fBin gSub (fBin gMod (fBin gFdiv (fVar 2) (fC (.int 9))) (fC (.int 5))) (fC (.int 2))) fNil)))))
  sNil)
  (sRet (fBin gIx (fLst (fCons (fTup (fCons (fC (.str "number")) (fCons (fC (.int 0)) (fCons (fC (.int 0)) fNil)))) (fCons (fTup (fCons (fC (.str "number")) (fCons (fBin gSub (fBin gMul (fUn gNeg (fC (.int 10))) (fVar 2)) (fC (.int 3))) (fCons (fC (.int 0)) fNil)))) fNil))) (fBin gMod (fVar 2) (fC (.int 2))))))))))
def b_kind  : FS Unit :=
  (sSeq (sIf (fAndT (fTru (fUn gIsTup (fVar 0))) (fAndT (fTst (fBin gEq (fUn gLen (fVar 0)) (fC (.int 2)))) (fTst (fBin gIn (fBin gIx (fVar 0) (fC (.int 0))) (fTup (fCons (fC (.str "row")) (fCons (fC (.str "fields")) fNil)))))))
  (sRet (fBin gIx (fVar 0) (fC (.int 0))))
  sNil)
  (sRet (fC (.str ""))))
def lb_lalike_1 (F_kind : List PyData → Option PyData) (F_lalike_ : List PyData → Option PyData) : FS Unit :=
  (sIf (fTst (fBin gEq (fVar 2) (fC (.str "row"))))
  (sIf (fNotT (fTru (fCall 2 F_lalike_ (fCons (fBin gIx (fBin gIx (fVar 0) (fC (.int 1))) (fVar 3)) (fCons (fBin gIx (fBin gIx (fVar 1) (fC (.int 1))) (fVar 3)) fNil)))))
  (sRet (fC (.bool false)))
  sNil)
  (sSeq (sAsg 4 (fComp itemsT 5 (fBin gIx (fVar 1) (fC (.int 1))) (fTst (fBin gEq (fBin gIx (fVar 5) (fC (.int 0))) (fBin gIx (fBin gIx (fBin gIx (fVar 0) (fC (.int 1))) (fVar 3)) (fC (.int 0))))) (fVar 5)))
  (sIf (fOrT (fTst (fBin gNe (fUn gLen (fVar 4)) (fC (.int 1)))) (fNotT (fTru (fCall 2 F_lalike_ (fCons (fBin gIx (fBin gIx (fBin gIx (fVar 0) (fC (.int 1))) (fVar 3)) (fC (.int 1))) (fCons (fBin gIx (fBin gIx (fVar 4) (fC (.int 0))) (fC (.int 1))) fNil))))))
  (sRet (fC (.bool false)))
  sNil)))
def b_lalike (F_kind : List PyData → Option PyData) (F_lalike_ : List PyData → Option PyData) : FS Unit :=
  (sSeq (sAsg 2 (fCall 1 F_kind (fCons (fVar 0) fNil)))
  (sSeq (sIf (fOrT (fTst (fBin gEq (fVar 2) (fC (.str "")))) (fTst (fBin gNe (fVar 2) (fCall 1 F_kind (fCons (fVar 1) fNil)))))
  (sRet (fAndV (fBin gEq (fVar 0) (fVar 1)) (fBin gEq (fUn gIsTup (fVar 0)) (fUn gIsTup (fVar 1)))))
  sNil)
  (sSeq (sIf (fTst (fBin gNe (fUn gLen (fBin gIx (fVar 0) (fC (.int 1)))) (fUn gLen (fBin gIx (fVar 1) (fC (.int 1))))))
  (sRet (fC (.bool false)))
  sNil)
  (sSeq (sFor range1 (st1 3) (fUn gLen (fBin gIx (fVar 0) (fC (.int 1))))
  (lb_lalike_1 F_kind F_lalike_))
  (sRet (fC (.bool true)))))))
def b_turned (F_kind : List PyData → Option PyData) (F_turned_ : List PyData → Option PyData) : FS Unit :=
  (sSeq (sAsg 2 (fCall 1 F_kind (fCons (fVar 0) fNil)))
  (sSeq (sIf (fTst (fBin gEq (fVar 2) (fC (.str ""))))
  (sRet (fVar 0))
  sNil)
  (sSeq (sIf (fTst (fBin gEq (fVar 2) (fC (.str "row"))))
  (sRet (fTup (fCons (fC (.str "row")) (fCons (fUn gTupleOf (fComp itemsT 3 (fBin gIx (fVar 0) (fC (.int 1))) fYes (fCall 2 F_turned_ (fCons (fVar 3) (fCons (fBin gFdiv (fVar 1) (fC (.int 3))) fNil))))) fNil))))
  sNil)
  (sSeq (sAsg 4 (fBin gMod (fVar 1) (fBin gAdd (fUn gLen (fBin gIx (fVar 0) (fC (.int 1)))) (fC (.int 1)))))
  (sSeq (sAsg 5 (fBin gAdd (fSl (fBin gIx (fVar 0) (fC (.int 1))) (oSome (fVar 4)) oNone) (fSl (fBin gIx (fVar 0) (fC (.int 1))) oNone (oSome (fVar 4)))))
  (sRet (fTup (fCons (fC (.str "fields")) (fCons (fUn gTupleOf (fComp itemsT 6 (fVar 5) fYes (fTup (fCons (fBin gIx (fVar 6) (fC (.int 0))) (fCons (fCall 2 F_turned_ (fCons (fBin gIx (fVar 6) (fC (.int 1))) (fCons (fBin gFdiv (fVar 1) (fC (.int 5))) fNil))) fNil))))) fNil)))))))))
def lb_ways_1  : FS (List PyData) :=
  (sApp (fTup (fCons (fBin gAdd (fVar 3) (fTup (fCons (fUn gTupleOf (fCodes 7 (fVar 6))) fNil))) (fCons (fBin gIx (fBin gIx (fVar 4) (fC (.int 1))) (fVar 6)) fNil))))
def lb_ways_2  : FS (List PyData) :=
  (sApp (fTup (fCons (fBin gAdd (fVar 3) (fTup (fCons (fBin gIx (fVar 8) (fC (.int 0))) fNil))) (fCons (fBin gIx (fVar 8) (fC (.int 1))) fNil))))
def lb_ways_3  : FS (List PyData) :=
  (sSeq (sAsg 3 (fBin gIx (fOwnIx (fVar 2)) (fC (.int 0))))
  (sSeq (sAsg 4 (fBin gIx (fOwnIx (fVar 2)) (fC (.int 1))))
  (sSeq (sAsg 5 (fC (.str "")))
  (sSeq (sIf (fTru (fUn gIsTup (fVar 4)))
  (sAsg 5 (fBin gIx (fVar 4) (fC (.int 0))))
  sNil)
  (sSeq (sIf (fTst (fBin gEq (fVar 5) (fC (.str "row"))))
  (sFor range1 (st1 6) (fUn gLen (fBin gIx (fVar 4) (fC (.int 1))))
  (lb_ways_1))
  sNil)
  (sSeq (sIf (fTst (fBin gEq (fVar 5) (fC (.str "fields"))))
  (sFor itemsT (st1 8) (fBin gIx (fVar 4) (fC (.int 1)))
  (lb_ways_2))
  sNil)
  (sAsg 2 (fBin gAdd (fVar 2) (fC (.int 1))))))))))
def b_ways  : FS Unit :=
  (sNewL 1 (fCons (fTup (fCons (fTup fNil) (fCons (fVar 0) fNil))) fNil)
  (sSeq (sAsg 2 (fC (.int 0)))
  (sSeq (whileN (fTst (fBin (gCmp pLt) (fVar 2) fOwnLen))
  (lb_ways_3) 100000)
  sRo)))
def lb_place_1  : FS Unit :=
  (sSeq (sIf (fNotT (fTst (fChain pLe pLe (fC (.int 48)) (fVar 2) (fC (.int 57)))))
  (sRet (fUn gNeg (fC (.int 1))))
  sNil)
  (sAsg 1 (fBin gSub (fBin gAdd (fBin gMul (fVar 1) (fC (.int 10))) (fVar 2)) (fC (.int 48)))))
def b_place  : FS Unit :=
  (sSeq (sIf (fOrT (fNotT (fTru (fVar 0))) (fAndT (fTst (fBin (gCmp pGt) (fUn gLen (fVar 0)) (fC (.int 1)))) (fTst (fBin gEq (fBin gIx (fVar 0) (fC (.int 0))) (fC (.int 48))))))
  (sRet (fUn gNeg (fC (.int 1))))
  sNil)
  (sSeq (sAsg 1 (fC (.int 0)))
  (sSeq (sFor itemsT (st1 2) (fVar 0)
  (lb_place_1))
  (sRet (fVar 1)))))
def lb_index_1 (F_place : List PyData → Option PyData) : FS Unit :=
  (sIf (fTst (fBin gEq (fBin gIx (fBin gIx (fBin gIx (fVar 0) (fC (.int 1))) (fVar 3)) (fC (.int 0))) (fVar 1)))
  (sRet (fVar 3))
  sNil)
def b_index (F_place : List PyData → Option PyData) : FS Unit :=
  (sSeq (sAsg 2 (fC (.str "")))
  (sSeq (sIf (fTru (fUn gIsTup (fVar 0)))
  (sAsg 2 (fBin gIx (fVar 0) (fC (.int 0))))
  sNil)
  (sSeq (sIf (fTst (fBin gEq (fVar 2) (fC (.str "fields"))))
  (sFor range1 (st1 3) (fUn gLen (fBin gIx (fVar 0) (fC (.int 1))))
  (lb_index_1 F_place))
  sNil)
  (sSeq (sIf (fAndT (fTst (fBin gEq (fVar 2) (fC (.str "row")))) (fTst (fBin (gCmp pLt) (fCall 1 F_place (fCons (fVar 1) fNil)) (fUn gLen (fBin gIx (fVar 0) (fC (.int 1)))))))
  (sRet (fCall 1 F_place (fCons (fVar 1) fNil)))
  sNil)
  (sRet (fUn gNeg (fC (.int 1))))))))
def lb_get_1 (F_index : List PyData → Option PyData) : FS Unit :=
  (sSeq (sAsg 3 (fCall 2 F_index (fCons (fVar 0) (fCons (fVar 2) fNil))))
  (sSeq (sIf (fTst (fBin (gCmp pLt) (fVar 3) (fC (.int 0))))
  (sRet (fLst fNil))
  sNil)
  (sAsg 0 (fIfE (fTst (fBin gEq (fBin gIx (fVar 0) (fC (.int 0))) (fC (.str "row")))) (fBin gIx (fBin gIx (fVar 0) (fC (.int 1))) (fVar 3)) (fBin gIx (fBin gIx (fBin gIx (fVar 0) (fC (.int 1))) (fVar 3)) (fC (.int 1)))))))
def b_get (F_index : List PyData → Option PyData) : FS Unit :=
  (sSeq (sFor itemsT (st1 2) (fVar 1)
  (lb_get_1 F_index))
  (sRet (fLst (fCons (fVar 0) fNil))))
def b_with (F_index : List PyData → Option PyData) : FS Unit :=
  (sSeq (sAsg 3 (fCall 2 F_index (fCons (fVar 0) (fCons (fVar 1) fNil))))
  (sSeq (sAsg 4 (fIfE (fTst (fBin gEq (fBin gIx (fVar 0) (fC (.int 0))) (fC (.str "row")))) (fVar 2) (fTup (fCons (fVar 1) (fCons (fVar 2) fNil)))))
  (sRet (fTup (fCons (fBin gIx (fVar 0) (fC (.int 0))) (fCons (fBin gAdd (fBin gAdd (fSl (fBin gIx (fVar 0) (fC (.int 1))) oNone (oSome (fVar 3))) (fTup (fCons (fVar 4) fNil))) (fSl (fBin gIx (fVar 0) (fC (.int 1))) (oSome (fBin gAdd (fVar 3) (fC (.int 1)))) oNone)) fNil))))))
def b_grown (F_index : List PyData → Option PyData) (F_grown_ : List PyData → Option PyData) (F_get : List PyData → Option PyData) (F_with : List PyData → Option PyData) (F_place : List PyData → Option PyData) : FS Unit :=
  (sSeq (sIf (fNotT (fTru (fVar 1)))
  (sRet (fLst (fCons (fVar 2) fNil)))
  sNil)
  (sSeq (sAsg 3 (fC (.str "")))
  (sSeq (sIf (fTru (fUn gIsTup (fVar 0)))
  (sAsg 3 (fBin gIx (fVar 0) (fC (.int 0))))
  sNil)
  (sSeq (sAsg 4 (fCall 2 F_index (fCons (fVar 0) (fCons (fBin gIx (fVar 1) (fC (.int 0))) fNil))))
  (sSeq (sIf (fTst (fBin (gCmp pGt) (fUn gLen (fVar 1)) (fC (.int 1))))
  (sSeq (sIf (fTst (fBin (gCmp pLt) (fVar 4) (fC (.int 0))))
  (sRet (fLst fNil))
  sNil)
  (sSeq (sAsg 5 (fCall 3 F_grown_ (fCons (fBin gIx (fCall 2 F_get (fCons (fVar 0) (fCons (fSl (fVar 1) oNone (oSome (fC (.int 1)))) fNil))) (fC (.int 0))) (fCons (fSl (fVar 1) (oSome (fC (.int 1))) oNone) (fCons (fVar 2) fNil)))))
  (sRet (fIfE (fTru (fVar 5)) (fLst (fCons (fCall 3 F_with (fCons (fVar 0) (fCons (fBin gIx (fVar 1) (fC (.int 0))) (fCons (fBin gIx (fVar 5) (fC (.int 0))) fNil)))) fNil)) (fLst fNil)))))
  sNil)
  (sSeq (sIf (fTst (fBin gEq (fVar 3) (fC (.str "fields"))))
  (sSeq (sIf (fTst (fBin (gCmp pGe) (fVar 4) (fC (.int 0))))
  (sRet (fLst (fCons (fCall 3 F_with (fCons (fVar 0) (fCons (fBin gIx (fVar 1) (fC (.int 0))) (fCons (fVar 2) fNil)))) fNil)))
  sNil)
  (sRet (fLst (fCons (fTup (fCons (fC (.str "fields")) (fCons (fBin gAdd (fBin gIx (fVar 0) (fC (.int 1))) (fTup (fCons (fTup (fCons (fBin gIx (fVar 1) (fC (.int 0))) (fCons (fVar 2) fNil))) fNil))) fNil))) fNil))))
  sNil)
  (sSeq (sIf (fTst (fBin gNe (fVar 3) (fC (.str "row"))))
  (sRet (fLst fNil))
  sNil)
  (sSeq (sAsg 4 (fIfE (fTst (fBin gEq (fBin gIx (fVar 1) (fC (.int 0))) (fTup (fCons (fC (.int 45)) fNil)))) (fUn gLen (fBin gIx (fVar 0) (fC (.int 1)))) (fCall 1 F_place (fCons (fBin gIx (fVar 1) (fC (.int 0))) fNil))))
  (sSeq (sIf (fNotT (fTst (fChain pLe pLe (fC (.int 0)) (fVar 4) (fUn gLen (fBin gIx (fVar 0) (fC (.int 1)))))))
  (sRet (fLst fNil))
  sNil)
  (sRet (fLst (fCons (fTup (fCons (fC (.str "row")) (fCons (fBin gAdd (fBin gAdd (fSl (fBin gIx (fVar 0) (fC (.int 1))) oNone (oSome (fVar 4))) (fTup (fCons (fVar 2) fNil))) (fSl (fBin gIx (fVar 0) (fC (.int 1))) (oSome (fVar 4)) oNone)) fNil))) fNil))))))))))))
def b_without (F_get : List PyData → Option PyData) (F_index : List PyData → Option PyData) (F_without_ : List PyData → Option PyData) (F_with : List PyData → Option PyData) : FS Unit :=
  (sSeq (sIf (fOrT (fNotT (fTru (fVar 1))) (fNotT (fTru (fCall 2 F_get (fCons (fVar 0) (fCons (fVar 1) fNil))))))
  (sRet (fLst fNil))
  sNil)
  (sSeq (sIf (fTst (fBin gEq (fUn gLen (fVar 1)) (fC (.int 1))))
  (sSeq (sAsg 2 (fCall 2 F_index (fCons (fVar 0) (fCons (fBin gIx (fVar 1) (fC (.int 0))) fNil))))
  (sRet (fLst (fCons (fTup (fCons (fBin gIx (fVar 0) (fC (.int 0))) (fCons (fBin gAdd (fSl (fBin gIx (fVar 0) (fC (.int 1))) oNone (oSome (fVar 2))) (fSl (fBin gIx (fVar 0) (fC (.int 1))) (oSome (fBin gAdd (fVar 2) (fC (.int 1)))) oNone)) fNil))) fNil))))
  sNil)
  (sSeq (sAsg 3 (fCall 2 F_without_ (fCons (fBin gIx (fCall 2 F_get (fCons (fVar 0) (fCons (fSl (fVar 1) oNone (oSome (fC (.int 1)))) fNil))) (fC (.int 0))) (fCons (fSl (fVar 1) (oSome (fC (.int 1))) oNone) fNil))))
  (sRet (fLst (fCons (fCall 3 F_with (fCons (fVar 0) (fCons (fBin gIx (fVar 1) (fC (.int 0))) (fCons (fBin gIx (fVar 3) (fC (.int 0))) fNil)))) fNil))))))
def b_replaced (F_get : List PyData → Option PyData) (F_replaced_ : List PyData → Option PyData) (F_with : List PyData → Option PyData) : FS Unit :=
  (sSeq (sIf (fNotT (fTru (fCall 2 F_get (fCons (fVar 0) (fCons (fVar 1) fNil)))))
  (sRet (fLst fNil))
  sNil)
  (sSeq (sIf (fNotT (fTru (fVar 1)))
  (sRet (fLst (fCons (fVar 2) fNil)))
  sNil)
  (sSeq (sAsg 3 (fCall 3 F_replaced_ (fCons (fBin gIx (fCall 2 F_get (fCons (fVar 0) (fCons (fSl (fVar 1) oNone (oSome (fC (.int 1)))) fNil))) (fC (.int 0))) (fCons (fSl (fVar 1) (oSome (fC (.int 1))) oNone) (fCons (fVar 2) fNil)))))
  (sRet (fLst (fCons (fCall 3 F_with (fCons (fVar 0) (fCons (fBin gIx (fVar 1) (fC (.int 0))) (fCons (fBin gIx (fVar 3) (fC (.int 0))) fNil)))) fNil))))))
def b_done (F_grown_ : List PyData → Option PyData) (F_without_ : List PyData → Option PyData) (F_replaced_ : List PyData → Option PyData) (F_get : List PyData → Option PyData) (F_lalike_ : List PyData → Option PyData) : FS Unit :=
  (sSeq (sIf (fTst (fBin gEq (fBin gIx (fVar 1) (fC (.int 0))) (fC (.str "add"))))
  (sRet (fCall 3 F_grown_ (fCons (fVar 0) (fCons (fBin gIx (fVar 1) (fC (.int 1))) (fCons (fBin gIx (fVar 1) (fC (.int 2))) fNil)))))
  sNil)
  (sSeq (sIf (fTst (fBin gEq (fBin gIx (fVar 1) (fC (.int 0))) (fC (.str "remove"))))
  (sRet (fCall 2 F_without_ (fCons (fVar 0) (fCons (fBin gIx (fVar 1) (fC (.int 1))) fNil))))
  sNil)
  (sSeq (sIf (fTst (fBin gEq (fBin gIx (fVar 1) (fC (.int 0))) (fC (.str "replace"))))
  (sRet (fCall 3 F_replaced_ (fCons (fVar 0) (fCons (fBin gIx (fVar 1) (fC (.int 1))) (fCons (fBin gIx (fVar 1) (fC (.int 2))) fNil)))))
  sNil)
  (sSeq (sAsg 2 (fCall 2 F_get (fCons (fVar 0) (fCons (fBin gIx (fVar 1) (fC (.int 1))) fNil))))
  (sSeq (sIf (fNotT (fTru (fVar 2)))
  (sRet (fLst fNil))
  sNil)
  (sSeq (sIf (fTst (fBin gEq (fBin gIx (fVar 1) (fC (.int 0))) (fC (.str "test"))))
  (sRet (fIfE (fTru (fCall 2 F_lalike_ (fCons (fBin gIx (fVar 2) (fC (.int 0))) (fCons (fBin gIx (fVar 1) (fC (.int 2))) fNil)))) (fLst (fCons (fVar 0) fNil)) (fLst fNil)))
  sNil)
  (sSeq (sIf (fTst (fBin gEq (fBin gIx (fVar 1) (fC (.int 0))) (fC (.str "copy"))))
  (sRet (fCall 3 F_grown_ (fCons (fVar 0) (fCons (fBin gIx (fVar 1) (fC (.int 2))) (fCons (fBin gIx (fVar 2) (fC (.int 0))) fNil)))))
  sNil)
  (sSeq (sIf (fAndT (fTst (fBin (gCmp pLt) (fUn gLen (fBin gIx (fVar 1) (fC (.int 1)))) (fUn gLen (fBin gIx (fVar 1) (fC (.int 2)))))) (fTst (fBin gEq (fSl (fBin gIx (fVar 1) (fC (.int 2))) oNone (oSome (fUn gLen (fBin gIx (fVar 1) (fC (.int 1)))))) (fBin gIx (fVar 1) (fC (.int 1))))))
  (sRet (fLst fNil))
  sNil)
  (sSeq (sAsg 3 (fCall 2 F_without_ (fCons (fVar 0) (fCons (fBin gIx (fVar 1) (fC (.int 1))) fNil))))
  (sRet (fIfE (fTru (fVar 3)) (fCall 3 F_grown_ (fCons (fBin gIx (fVar 3) (fC (.int 0))) (fCons (fBin gIx (fVar 1) (fC (.int 2))) (fCons (fBin gIx (fVar 2) (fC (.int 0))) fNil)))) (fLst fNil))))))))))))
def lb_deep_1 (F_kind : List PyData → Option PyData) (F_deep_ : List PyData → Option PyData) : FS Unit :=
  (sAsg 2 (fBin gMax (fVar 2) (fCall 1 F_deep_ (fCons (fIfE (fTst (fBin gEq (fVar 1) (fC (.str "row")))) (fVar 3) (fBin gIx (fVar 3) (fC (.int 1)))) fNil))))
def b_deep (F_kind : List PyData → Option PyData) (F_deep_ : List PyData → Option PyData) : FS Unit :=
  (sSeq (sAsg 1 (fCall 1 F_kind (fCons (fVar 0) fNil)))
  (sSeq (sIf (fTst (fBin gEq (fVar 1) (fC (.str ""))))
  (sRet (fC (.int 0)))
  sNil)
  (sSeq (sAsg 2 (fC (.int 0)))
  (sSeq (sFor itemsT (st1 3) (fBin gIx (fVar 0) (fC (.int 1)))
  (lb_deep_1 F_kind F_deep_))
  (sRet (fBin gAdd (fC (.int 1)) (fVar 2)))))))
def lb_size_1 (F_kind : List PyData → Option PyData) (F_size_ : List PyData → Option PyData) : FS Unit :=
  (sAsg 2 (fBin gAdd (fVar 2) (fCall 1 F_size_ (fCons (fIfE (fTst (fBin gEq (fVar 1) (fC (.str "row")))) (fVar 3) (fBin gIx (fVar 3) (fC (.int 1)))) fNil))))
def b_size (F_kind : List PyData → Option PyData) (F_size_ : List PyData → Option PyData) : FS Unit :=
  (sSeq (sAsg 1 (fCall 1 F_kind (fCons (fVar 0) fNil)))
  (sSeq (sAsg 2 (fC (.int 1)))
  (sSeq (sIf (fTst (fBin gNe (fVar 1) (fC (.str ""))))
  (sFor itemsT (st1 3) (fBin gIx (fVar 0) (fC (.int 1)))
  (lb_size_1 F_kind F_size_))
  sNil)
  (sRet (fVar 2)))))
def b_fits (F_size_ : List PyData → Option PyData) (F_deep_ : List PyData → Option PyData) : FS Unit :=
  (sRet (fAndV (fBin (gCmp pLe) (fCall 1 F_size_ (fCons (fVar 0) fNil)) (fC (.int 300))) (fBin (gCmp pLe) (fCall 1 F_deep_ (fCons (fVar 0) fNil)) (fC (.int 64)))))
def b_deed (F_ways : List PyData → Option PyData) (F_mix : List PyData → Option PyData) (F_lnamed : List PyData → Option PyData) (F_clean : List PyData → Option PyData) (F_get : List PyData → Option PyData) (F_turned_ : List PyData → Option PyData) : FS Unit :=
  (sSeq (sAsg 3 (fCall 1 F_ways (fCons (fVar 2) fNil)))
  (sSeq (sAsg 4 (fBin gIx (fBin gIx (fVar 3) (fBin gMod (fCall 2 F_mix (fCons (fVar 0) (fCons (fVar 1) fNil))) (fUn gLen (fVar 3)))) (fC (.int 0))))
  (sSeq (sAsg 5 (fBin gIx (fBin gIx (fVar 3) (fBin gMod (fCall 2 F_mix (fCons (fVar 0) (fCons (fBin gAdd (fVar 1) (fC (.int 1))) fNil))) (fUn gLen (fVar 3)))) (fC (.int 0))))
  (sSeq (sAsg 6 (fCall 2 F_mix (fCons (fVar 0) (fCons (fBin gAdd (fVar 1) (fC (.int 2))) fNil))))
  (sSeq (sAsg 7 (fLst (fCons (fTup fNil) (fCons (fTup (fCons (fTup (fCons (fC (.int 48)) fNil)) fNil)) (fCons (fTup (fCons (fTup (fCons (fC (.int 45)) fNil)) fNil)) (fCons (fTup (fCons (fCall 1 F_lnamed (fCons (fBin gMod (fBin gFdiv (fVar 6) (fC (.int 7))) (fC (.int 8))) fNil)) fNil)) (fCons (fTup (fCons (fUn gTupleOf (fLst (fCons (fBin gAdd (fC (.int 48)) (fBin gMod (fBin gFdiv (fVar 6) (fC (.int 7))) (fC (.int 10)))) fNil))) fNil)) (fCons (fTup (fCons (fTup (fCons (fC (.int 48)) (fCons (fC (.int 48)) fNil))) fNil)) fNil))))))))
  (sSeq (sIf (fTst (fBin gEq (fBin gMod (fVar 6) (fC (.int 7))) (fC (.int 0))))
  (sAsg 4 (fBin gAdd (fVar 4) (fBin gIx (fVar 7) (fBin gMod (fBin gFdiv (fVar 6) (fC (.int 70))) (fC (.int 6))))))
  sNil)
  (sSeq (sIf (fTst (fBin gEq (fBin gMod (fVar 6) (fC (.int 3))) (fC (.int 0))))
  (sAsg 5 (fBin gAdd (fVar 5) (fBin gIx (fVar 7) (fBin gMod (fBin gFdiv (fVar 6) (fC (.int 77))) (fC (.int 6))))))
  sNil)
  (sSeq (sAsg 8 (fBin gIx (fLst (fCons (fC (.str "add")) (fCons (fC (.str "remove")) (fCons (fC (.str "replace")) (fCons (fC (.str "move")) (fCons (fC (.str "copy")) (fCons (fC (.str "test")) fNil))))))) (fBin gMod (fCall 2 F_mix (fCons (fVar 0) (fCons (fBin gAdd (fVar 1) (fC (.int 3))) fNil))) (fC (.int 6)))))
  (sSeq (sIf (fAndT (fTst (fBin gEq (fVar 8) (fC (.str "move")))) (fTst (fBin gEq (fBin gMod (fBin gFdiv (fVar 6) (fC (.int 5))) (fC (.int 3))) (fC (.int 0)))))
  (sAsg 5 (fBin gAdd (fVar 4) (fTup (fCons (fCall 1 F_lnamed (fCons (fBin gMod (fBin gFdiv (fVar 6) (fC (.int 15))) (fC (.int 8))) fNil)) fNil))))
  sNil)
  (sSeq (sAsg 9 (fCall 3 F_clean (fCons (fVar 0) (fCons (fBin gAdd (fVar 1) (fC (.int 4))) (fCons (fBin gAdd (fC (.int 1)) (fBin gMod (fCall 2 F_mix (fCons (fVar 0) (fCons (fBin gAdd (fVar 1) (fC (.int 5))) fNil))) (fC (.int 4)))) fNil)))))
  (sSeq (sIf (fTst (fBin gEq (fVar 8) (fC (.str "add"))))
  (sRet (fTup (fCons (fVar 8) (fCons (fVar 5) (fCons (fVar 9) fNil)))))
  sNil)
  (sSeq (sIf (fTst (fBin gEq (fVar 8) (fC (.str "remove"))))
  (sRet (fTup (fCons (fVar 8) (fCons (fVar 4) fNil))))
  sNil)
  (sSeq (sIf (fTst (fBin gEq (fVar 8) (fC (.str "replace"))))
  (sRet (fTup (fCons (fVar 8) (fCons (fVar 4) (fCons (fVar 9) fNil)))))
  sNil)
  (sSeq (sIf (fTst (fBin gEq (fVar 8) (fC (.str "test"))))
  (sSeq (sAsg 10 (fCall 2 F_get (fCons (fVar 2) (fCons (fVar 4) fNil))))
  (sSeq (sIf (fAndT (fTru (fVar 10)) (fTst (fBin (gCmp pGt) (fBin gMod (fVar 6) (fC (.int 5))) (fC (.int 0)))))
  (sAsg 9 (fCall 2 F_turned_ (fCons (fBin gIx (fVar 10) (fC (.int 0))) (fCons (fVar 6) fNil))))
  sNil)
  (sRet (fTup (fCons (fVar 8) (fCons (fVar 4) (fCons (fVar 9) fNil)))))))
  sNil)
  (sRet (fTup (fCons (fVar 8) (fCons (fVar 4) (fCons (fVar 5) fNil)))))))))))))))))))
def lb_named_ways_1 (F_get : List PyData → Option PyData) (F_ways : List PyData → Option PyData) : FS (List PyData) :=
  (sSeq (sAsg 3 (fAndV (fVar 3) (fBin gEq (fBin gIx (fVar 4) (fC (.int 0))) (fC (.str "fields")))))
  (sAsg 4 (fBin gIx (fCall 2 F_get (fCons (fVar 4) (fCons (fTup (fCons (fVar 5) fNil)) fNil))) (fC (.int 0)))))
def lb_named_ways_2 (F_get : List PyData → Option PyData) (F_ways : List PyData → Option PyData) : FS (List PyData) :=
  (sSeq (sAsg 3 (fC (.bool true)))
  (sSeq (sAsg 4 (fVar 0))
  (sSeq (sFor itemsT (st1 5) (fBin gIx (fVar 2) (fC (.int 0)))
  (lb_named_ways_1 F_get F_ways))
  (sIf (fTru (fVar 3))
  (sApp (fVar 2))
  sNil))))
def b_named_ways (F_get : List PyData → Option PyData) (F_ways : List PyData → Option PyData) : FS Unit :=
  (sNewL 1 fNil
  (sSeq (sFor itemsL (st1 2) (fCall 1 F_ways (fCons (fVar 0) fNil))
  (lb_named_ways_2 F_get F_ways))
  sRo))
def lb_law_1 (F_clean : List PyData → Option PyData) (F_mix : List PyData → Option PyData) (F_done : List PyData → Option PyData) (F_deed : List PyData → Option PyData) (F_fits : List PyData → Option PyData) (F_turned_ : List PyData → Option PyData) (F_between : List PyData → Option PyData) (F_lalike_ : List PyData → Option PyData) (F_get : List PyData → Option PyData) (F_named_ways : List PyData → Option PyData) : FS Unit :=
  (sSeq (sAsg 4 (fCall 2 F_done (fCons (fVar 2) (fCons (fCall 3 F_deed (fCons (fVar 0) (fCons (fBin gAdd (fC (.int 20)) (fBin gMul (fC (.int 7)) (fVar 3))) (fCons (fVar 2) fNil)))) fNil))))
  (sIf (fAndT (fTru (fVar 4)) (fTru (fCall 1 F_fits (fCons (fBin gIx (fVar 4) (fC (.int 0))) fNil))))
  (sAsg 2 (fBin gIx (fVar 4) (fC (.int 0))))
  sNil))
def lb_law_2 (F_clean : List PyData → Option PyData) (F_mix : List PyData → Option PyData) (F_done : List PyData → Option PyData) (F_deed : List PyData → Option PyData) (F_fits : List PyData → Option PyData) (F_turned_ : List PyData → Option PyData) (F_between : List PyData → Option PyData) (F_lalike_ : List PyData → Option PyData) (F_get : List PyData → Option PyData) (F_named_ways : List PyData → Option PyData) : FS Unit :=
  (sSeq (sIf (fOrT (fNotT (fTru (fUn gIsTup (fVar 7)))) (fTst (fBin gNotIn (fBin gIx (fVar 7) (fC (.int 0))) (fTup (fCons (fC (.str "add")) (fCons (fC (.str "remove")) (fCons (fC (.str "replace")) fNil)))))))
  (sRet (fC (.bool false)))
  sNil)
  (sSeq (sIf (fOrT (fTst (fBin gNe (fUn gLen (fVar 7)) (fBin gAdd (fC (.int 2)) (fUn gIntOf (fBin gNe (fBin gIx (fVar 7) (fC (.int 0))) (fC (.str "remove"))))))) (fNotT (fTru (fUn gIsTup (fBin gIx (fVar 7) (fC (.int 1)))))))
  (sRet (fC (.bool false)))
  sNil)
  (sSeq (sIf (fNotT (fTru (fUn gAll (fComp itemsT 8 (fBin gIx (fVar 7) (fC (.int 1))) fYes (fUn gIsTup (fVar 8))))))
  (sRet (fC (.bool false)))
  sNil)
  (sSeq (sAsg 4 (fCall 2 F_done (fCons (fVar 6) (fCons (fVar 7) fNil))))
  (sSeq (sIf (fNotT (fTru (fVar 4)))
  (sRet (fC (.bool false)))
  sNil)
  (sAsg 6 (fBin gIx (fVar 4) (fC (.int 0)))))))))
def lb_law_3 (F_clean : List PyData → Option PyData) (F_mix : List PyData → Option PyData) (F_done : List PyData → Option PyData) (F_deed : List PyData → Option PyData) (F_fits : List PyData → Option PyData) (F_turned_ : List PyData → Option PyData) (F_between : List PyData → Option PyData) (F_lalike_ : List PyData → Option PyData) (F_get : List PyData → Option PyData) (F_named_ways : List PyData → Option PyData) : FS Unit :=
  (sSeq (sAsg 11 (fCall 2 F_get (fCons (fVar 2) (fCons (fVar 9) fNil))))
  (sIf (fAndT (fTru (fVar 11)) (fAndT (fTru (fCall 2 F_lalike_ (fCons (fVar 10) (fCons (fBin gIx (fVar 11) (fC (.int 0))) fNil)))) (fTru (fComp itemsL 7 (fVar 5) (fTst (fBin gEq (fBin gIx (fVar 7) (fC (.int 1))) (fVar 9))) (fVar 7)))))
  (sSeq (sAsg 12 (fComp itemsL 13 (fCall 1 F_named_ways (fCons (fVar 2) fNil)) (fTst (fBin gEq (fBin gIx (fVar 13) (fC (.int 0))) (fVar 9))) (fVar 13)))
  (sIf (fTru (fVar 12))
  (sRet (fC (.bool false)))
  sNil))
  sNil))
def b_law (F_clean : List PyData → Option PyData) (F_mix : List PyData → Option PyData) (F_done : List PyData → Option PyData) (F_deed : List PyData → Option PyData) (F_fits : List PyData → Option PyData) (F_turned_ : List PyData → Option PyData) (F_between : List PyData → Option PyData) (F_lalike_ : List PyData → Option PyData) (F_get : List PyData → Option PyData) (F_named_ways : List PyData → Option PyData) : FS Unit :=
  (sSeq (sAsg 1 (fCall 3 F_clean (fCons (fVar 0) (fCons (fC (.int 0)) (fCons (fBin gAdd (fC (.int 1)) (fBin gMod (fCall 2 F_mix (fCons (fVar 0) (fCons (fC (.int 62)) fNil))) (fC (.int 9)))) fNil)))))
  (sSeq (sAsg 2 (fCall 3 F_clean (fCons (fVar 0) (fCons (fC (.int 12)) (fCons (fBin gAdd (fC (.int 1)) (fBin gMod (fCall 2 F_mix (fCons (fVar 0) (fCons (fC (.int 61)) fNil))) (fC (.int 9)))) fNil)))))
  (sSeq (sIf (fTst (fBin (gCmp pGt) (fBin gMod (fCall 2 F_mix (fCons (fVar 0) (fCons (fC (.int 60)) fNil))) (fC (.int 3))) (fC (.int 0))))
  (sSeq (sAsg 2 (fVar 1))
  (sSeq (sFor range1 (st1 3) (fBin gMod (fCall 2 F_mix (fCons (fVar 0) (fCons (fC (.int 59)) fNil))) (fC (.int 5)))
  (lb_law_1 F_clean F_mix F_done F_deed F_fits F_turned_ F_between F_lalike_ F_get F_named_ways))
  (sAsg 2 (fCall 2 F_turned_ (fCons (fVar 2) (fCons (fCall 2 F_mix (fCons (fVar 0) (fCons (fC (.int 58)) fNil))) fNil))))))
  sNil)
  (sSeq (sAsg 5 (fCall 2 F_between (fCons (fVar 1) (fCons (fVar 2) fNil))))
  (sSeq (sIf (fOrT (fNotT (fTru (fUn gIsLst (fVar 5)))) (fTst (fBin gNe (fBin gEq (fVar 5) (fLst fNil)) (fCall 2 F_lalike_ (fCons (fVar 1) (fCons (fVar 2) fNil))))))
  (sRet (fC (.bool false)))
  sNil)
  (sSeq (sAsg 6 (fVar 1))
  (sSeq (sFor itemsL (st1 7) (fVar 5)
  (lb_law_2 F_clean F_mix F_done F_deed F_fits F_turned_ F_between F_lalike_ F_get F_named_ways))
  (sSeq (sIf (fNotT (fTru (fCall 2 F_lalike_ (fCons (fVar 6) (fCons (fVar 2) fNil)))))
  (sRet (fC (.bool false)))
  sNil)
  (sSeq (sFor itemsL (st2 9 10) (fCall 1 F_named_ways (fCons (fVar 1) fNil))
  (lb_law_3 F_clean F_mix F_done F_deed F_fits F_turned_ F_between F_lalike_ F_get F_named_ways))
  (sRet (fC (.bool true))))))))))))
end Pg

namespace Pg
open PySem PySem.Spec PyProof.Rows L2 DL
theorem sc_figures : FnScope ["number", "sign"] ["number"] (defScope s_figures) := ⟨rfl, rfl, rfl, by decide +kernel, rfl, by decide +kernel, by decide +kernel⟩
theorem sc_named : FnScope ["pairs", "name", "at", "pair"] ["pairs", "name"] (defScope s_named) := ⟨rfl, rfl, rfl, by decide +kernel, rfl, by decide +kernel, by decide +kernel⟩
theorem sc_alike : FnScope ["one", "other", "k", "pair", "at"] ["one", "other"] (defScope s_alike) := ⟨rfl, rfl, rfl, by decide +kernel, rfl, by decide +kernel, by decide +kernel⟩
theorem sc_gather_members : FnScope ["found", "names", "one", "other", "pair", "k"] ["found", "names", "one", "other"] (defScope s_gather_members) := ⟨rfl, rfl, rfl, by decide +kernel, rfl, by decide +kernel, by decide +kernel⟩
theorem sc_gather_row : FnScope ["found", "names", "one", "other", "shared", "k"] ["found", "names", "one", "other"] (defScope s_gather_row) := ⟨rfl, rfl, rfl, by decide +kernel, rfl, by decide +kernel, by decide +kernel⟩
theorem sc_gather : FnScope ["found", "names", "one", "other", "kinds"] ["found", "names", "one", "other"] (defScope s_gather) := ⟨rfl, rfl, rfl, by decide +kernel, rfl, by decide +kernel, by decide +kernel⟩
theorem sc_between : FnScope ["one", "other", "found"] ["one", "other"] (defScope s_between) := ⟨rfl, rfl, rfl, by decide +kernel, rfl, by decide +kernel, by decide +kernel⟩
theorem sc_cell : FnScope ["_law_script", "_law_k"] ["_law_script", "_law_k"] (defScope s_cell) := ⟨rfl, rfl, rfl, by decide +kernel, rfl, by decide +kernel, by decide +kernel⟩
theorem sc_mix : FnScope ["_law_script", "_law_k", "_law_number"] ["_law_script", "_law_k"] (defScope s_mix) := ⟨rfl, rfl, rfl, by decide +kernel, rfl, by decide +kernel, by decide +kernel⟩
theorem sc_lnamed : FnScope ["_law_many_here"] ["_law_many_here"] (defScope s_lnamed) := ⟨rfl, rfl, rfl, by decide +kernel, rfl, by decide +kernel, by decide +kernel⟩
theorem sc_small_value : FnScope ["_law_number", "_law_kind_here", "_law_rest"] ["_law_number"] (defScope s_small_value) := ⟨rfl, rfl, rfl, by decide +kernel, rfl, by decide +kernel, by decide +kernel⟩
theorem sc_kind : FnScope ["_law_thing"] ["_law_thing"] (defScope s_kind) := ⟨rfl, rfl, rfl, by decide +kernel, rfl, by decide +kernel, by decide +kernel⟩
theorem sc_lalike : FnScope ["_law_one", "_law_other", "_law_kind_here", "_law_k", "_law_same", "_law_pair"] ["_law_one", "_law_other"] (defScope s_lalike) := ⟨rfl, rfl, rfl, by decide +kernel, rfl, by decide +kernel, by decide +kernel⟩
theorem sc_turned : FnScope ["_law_thing", "_law_number", "_law_kind_here", "_law_part", "_law_at", "_law_pairs", "_law_pair"] ["_law_thing", "_law_number"] (defScope s_turned) := ⟨rfl, rfl, rfl, by decide +kernel, rfl, by decide +kernel, by decide +kernel⟩
theorem sc_ways : FnScope ["_law_thing", "_law_found", "_law_at", "_law_names", "_law_here", "_law_kind_here", "_law_k", "_law_sign", "_law_pair"] ["_law_thing"] (defScope s_ways) := ⟨rfl, rfl, rfl, by decide +kernel, rfl, by decide +kernel, by decide +kernel⟩
theorem sc_place : FnScope ["_law_name", "_law_number", "_law_point"] ["_law_name"] (defScope s_place) := ⟨rfl, rfl, rfl, by decide +kernel, rfl, by decide +kernel, by decide +kernel⟩
theorem sc_index : FnScope ["_law_thing", "_law_name", "_law_kind_here", "_law_at"] ["_law_thing", "_law_name"] (defScope s_index) := ⟨rfl, rfl, rfl, by decide +kernel, rfl, by decide +kernel, by decide +kernel⟩
theorem sc_get : FnScope ["_law_thing", "_law_names", "_law_name", "_law_at"] ["_law_thing", "_law_names"] (defScope s_get) := ⟨rfl, rfl, rfl, by decide +kernel, rfl, by decide +kernel, by decide +kernel⟩
theorem sc_with : FnScope ["_law_thing", "_law_name", "_law_new", "_law_at", "_law_part"] ["_law_thing", "_law_name", "_law_new"] (defScope s_with) := ⟨rfl, rfl, rfl, by decide +kernel, rfl, by decide +kernel, by decide +kernel⟩
theorem sc_grown : FnScope ["_law_thing", "_law_names", "_law_new", "_law_kind_here", "_law_at", "_law_inside"] ["_law_thing", "_law_names", "_law_new"] (defScope s_grown) := ⟨rfl, rfl, rfl, by decide +kernel, rfl, by decide +kernel, by decide +kernel⟩
theorem sc_without : FnScope ["_law_thing", "_law_names", "_law_at", "_law_inside"] ["_law_thing", "_law_names"] (defScope s_without) := ⟨rfl, rfl, rfl, by decide +kernel, rfl, by decide +kernel, by decide +kernel⟩
theorem sc_replaced : FnScope ["_law_thing", "_law_names", "_law_new", "_law_inside"] ["_law_thing", "_law_names", "_law_new"] (defScope s_replaced) := ⟨rfl, rfl, rfl, by decide +kernel, rfl, by decide +kernel, by decide +kernel⟩
theorem sc_done : FnScope ["_law_thing", "_law_deed_here", "_law_here", "_law_left"] ["_law_thing", "_law_deed_here"] (defScope s_done) := ⟨rfl, rfl, rfl, by decide +kernel, rfl, by decide +kernel, by decide +kernel⟩
theorem sc_deep : FnScope ["_law_thing", "_law_kind_here", "_law_found", "_law_part"] ["_law_thing"] (defScope s_deep) := ⟨rfl, rfl, rfl, by decide +kernel, rfl, by decide +kernel, by decide +kernel⟩
theorem sc_size : FnScope ["_law_thing", "_law_kind_here", "_law_found", "_law_part"] ["_law_thing"] (defScope s_size) := ⟨rfl, rfl, rfl, by decide +kernel, rfl, by decide +kernel, by decide +kernel⟩
theorem sc_fits : FnScope ["_law_thing"] ["_law_thing"] (defScope s_fits) := ⟨rfl, rfl, rfl, by decide +kernel, rfl, by decide +kernel, by decide +kernel⟩
theorem sc_deed : FnScope ["_law_script", "_law_base", "_law_thing", "_law_ways_here", "_law_names", "_law_goal", "_law_number", "_law_extra", "_law_kind_here", "_law_new", "_law_here"] ["_law_script", "_law_base", "_law_thing"] (defScope s_deed) := ⟨rfl, rfl, rfl, by decide +kernel, rfl, by decide +kernel, by decide +kernel⟩
theorem sc_named_ways : FnScope ["_law_thing", "_law_found", "_law_way", "_law_good", "_law_here", "_law_name"] ["_law_thing"] (defScope s_named_ways) := ⟨rfl, rfl, rfl, by decide +kernel, rfl, by decide +kernel, by decide +kernel⟩
theorem sc_law : FnScope ["_law_script", "_law_one", "_law_other", "_law_k", "_law_after", "_law_found", "_law_here", "_law_deed_here", "_law_part", "_law_names", "_law_value_here", "_law_there_here", "_law_same", "_law_way"] ["_law_script"] (defScope s_law) := ⟨rfl, rfl, rfl, by decide +kernel, rfl, by decide +kernel, by decide +kernel⟩
end Pg

namespace Pg
open PySem PySem.Spec PyProof.Rows L2 DL
def b_put_in (F_lnamed : List PyData → Option PyData) : FS Fs :=
  sIf (fAndT fFrT (fTst (fBin gEq fTopKind (fC (.str "row"))))) (sTopApp (fVar 1))
    (sIf fFrT (sTopApp (fTup (fCons (fCall 1 F_lnamed (fCons fTopLen fNil)) (fCons (fVar 1) fNil)))) sNil)
def b_shut (FF_put_in : Fs → List PyData → Option (PyData × Fs)) : FS Fs :=
  sSeq (sPop 1) (sSeq (sAsg 2 (fTup (fCons (fBin gIx (fVar 1) (fC (.int 0))) (fCons (fUn gTupleOf (fBin gIx (fVar 1) (fC (.int 1)))) fNil))))
    (sSeq (sCallF 1 FF_put_in (fCons (fVar 2) fNil)) (sRet (fVar 2))))
def lb_clean_1 (F_mix F_small_value : List PyData → Option PyData) (FF_shut FF_put_in : Fs → List PyData → Option (PyData × Fs)) : FS Fs :=
    (sSeq (sAsg 6 (fCall 2 F_mix (fCons (fVar 0) (fCons (fBin gAdd (fVar 1) (fVar 5)) fNil))))
      (sIf (fAndT fFrT (fTst (fBin gEq (fBin gMod (fVar 6) (fC (.int 5))) (fC (.int 1))))) (sSetF 4 0 FF_shut fNil)
        (sIf (fOrT fFrT (fTst (fBin gEq (fVar 5) (fC (.int 0)))))
          (sIf (fOrT (fTst (fBin (gCmp pGt) (fBin gMod (fVar 6) (fC (.int 5))) (fC (.int 2)))) (fAndT (fTst (fBin gEq (fVar 5) (fC (.int 0)))) (fTst (fBin (gCmp pGt) (fBin gMod (fVar 6) (fC (.int 9))) (fC (.int 0))))))
            (sPush (fBin gIx (fLst (fCons (fC (.str "row")) (fCons (fC (.str "fields")) fNil))) (fBin gMod (fBin gFdiv (fVar 6) (fC (.int 5))) (fC (.int 2)))))
            (sSeq (sAsg 4 (fCall 1 F_small_value (fCons (fBin gFdiv (fVar 6) (fC (.int 7))) fNil))) (sCallF 1 FF_put_in (fCons (fVar 4) fNil))))
          sNil)))
def b_clean (F_mix F_small_value : List PyData → Option PyData) (FF_shut FF_put_in : Fs → List PyData → Option (PyData × Fs)) : FS Unit :=
  sNewF 3 (sSeq (sAsg 4 (fC .none)) (sSeq (sFor range1 (st1 5) (fVar 2) (lb_clean_1 F_mix F_small_value FF_shut FF_put_in))
    (sSeq (whileN fFrT (sSetF 4 0 FF_shut fNil) 100000) (sRet (fVar 4)))))
def F_figures := runF 2 b_figures
def F_named := runF 4 b_named
def F_alike : Nat → List PyData → Option PyData
  | 0 => fun _ => none
  | n + 1 => runF 5 (b_alike (F_alike n) F_named)
def FO_gather : Nat → List PyData → List PyData → Option (List PyData)
  | 0 => fun _ _ => none
  | n + 1 => runO 4 (b_gather (F_alike 70) (runO 5 (b_gather_members F_named (FO_gather n))) (runO 5 (b_gather_row (FO_gather n) F_figures)))
def F_between := runF 3 (b_between (FO_gather 70))
def F_cell := runF 2 b_cell
def F_mix := runF 3 (b_mix F_cell)
def F_lnamed := runF 1 b_lnamed
def F_small_value := runF 3 b_small_value
def FF_put_in := runP 1 (b_put_in F_lnamed)
def FF_shut := runP 2 (b_shut FF_put_in)
def F_clean := runF 7 (b_clean F_mix F_small_value FF_shut FF_put_in)
def F_kind := runF 1 b_kind
def F_lalike : Nat → List PyData → Option PyData
  | 0 => fun _ => none
  | n + 1 => runF 6 (b_lalike F_kind (F_lalike n))
def F_turned : Nat → List PyData → Option PyData
  | 0 => fun _ => none
  | n + 1 => runF 7 (b_turned F_kind (F_turned n))
def F_ways := runF 9 b_ways
def F_place := runF 3 b_place
def F_index := runF 4 (b_index F_place)
def F_get := runF 4 (b_get F_index)
def F_with := runF 5 (b_with F_index)
def F_grown : Nat → List PyData → Option PyData
  | 0 => fun _ => none
  | n + 1 => runF 6 (b_grown F_index (F_grown n) F_get F_with F_place)
def F_without : Nat → List PyData → Option PyData
  | 0 => fun _ => none
  | n + 1 => runF 4 (b_without F_get F_index (F_without n) F_with)
def F_replaced : Nat → List PyData → Option PyData
  | 0 => fun _ => none
  | n + 1 => runF 4 (b_replaced F_get (F_replaced n) F_with)
def F_done := runF 4 (b_done (F_grown 70) (F_without 70) (F_replaced 70) F_get (F_lalike 70))
def F_deep : Nat → List PyData → Option PyData
  | 0 => fun _ => none
  | n + 1 => runF 4 (b_deep F_kind (F_deep n))
def F_size : Nat → List PyData → Option PyData
  | 0 => fun _ => none
  | n + 1 => runF 4 (b_size F_kind (F_size n))
def F_fits := runF 1 (b_fits (F_size 140) (F_deep 140))
def F_deed := runF 11 (b_deed F_ways F_mix F_lnamed F_clean F_get (F_turned 70))
def F_named_ways := runF 6 (b_named_ways F_get F_ways)
def F_law := runF 14 (b_law F_clean F_mix F_done F_deed F_fits (F_turned 70) F_between (F_lalike 70) F_get F_named_ways)
end Pg

namespace Pl
open PySem DL Pg
/-- an equation that simp is not to take for a computation -/
theorem nr {α : Sort u} {a b : α} (h : a = b) : a = b := h

/-! ### values -/
abbrev Nm := List Int
inductive J where
  | non | bl (b : Bool) | num (n p : Int) | txt (cs : List Int) | row (xs : List J) | fld (ms : List (Nm × J))

theorem mem_sz {m : Nm × J} {ms : List (Nm × J)} (h : m ∈ ms) : sizeOf m.2 < sizeOf ms := by
  have h1 := List.sizeOf_lt_of_mem h
  have h2 : sizeOf m.2 < sizeOf m := by
    cases m
    simp
    omega
  omega
theorem J.ind {P : J → Prop} (h1 : P .non) (h2 : ∀ b, P (.bl b)) (h3 : ∀ n p, P (.num n p)) (h4 : ∀ cs, P (.txt cs)) (h5 : ∀ xs, (∀ x ∈ xs, P x) → P (.row xs)) (h6 : ∀ ms, (∀ m ∈ ms, P m.2) → P (.fld ms)) : ∀ j, P j
  | .non => h1
  | .bl b => h2 b
  | .num n p => h3 n p
  | .txt cs => h4 cs
  | .row xs => h5 xs fun x hx => J.ind h1 h2 h3 h4 h5 h6 x
  | .fld ms => h6 ms fun m hm => J.ind h1 h2 h3 h4 h5 h6 m.2
termination_by j => sizeOf j
decreasing_by
  · have := List.sizeOf_lt_of_mem hx; simp; omega
  · have := mem_sz hm; simp; omega
theorem att {α β : Type} (l : List α) (f : α → β) : (l.attach.map fun x => f x.1) = l.map f := List.attach_map_val ..
def nmD (n : Nm) : PyData := .tuple (n.map PyData.int)
def enc : J → PyData
  | .non => .none
  | .bl b => .bool b
  | .num n p => .tuple [.str "number", .int n, .int p]
  | .txt cs => .tuple [.str "text", .tuple (cs.map PyData.int)]
  | .row xs => .tuple [.str "row", .tuple (xs.attach.map fun x => enc x.1)]
  | .fld ms => .tuple [.str "fields", .tuple (ms.attach.map fun m => .tuple [nmD m.1.1, enc m.1.2])]
termination_by j => sizeOf j
decreasing_by
  · have := List.sizeOf_lt_of_mem x.2; simp; omega
  · have := mem_sz m.2; simp; omega
def encP (m : Nm × J) : PyData := .tuple [nmD m.1, enc m.2]
theorem enc_non : enc .non = .none := by rw [enc]
theorem enc_bl (b : Bool) : enc (.bl b) = .bool b := by rw [enc]
theorem enc_num (n p : Int) : enc (.num n p) = .tuple [.str "number", .int n, .int p] := by rw [enc]
theorem enc_txt (cs : List Int) : enc (.txt cs) = .tuple [.str "text", .tuple (cs.map PyData.int)] := by rw [enc]
theorem enc_row (xs : List J) : enc (.row xs) = .tuple [.str "row", .tuple (xs.map enc)] := by
  rw [enc, att xs enc]
theorem enc_fld (ms : List (Nm × J)) : enc (.fld ms) = .tuple [.str "fields", .tuple (ms.map encP)] := by
  rw [enc, att ms (fun m : Nm × J => PyData.tuple [nmD m.1, enc m.2])]
  rfl
def size : J → Nat
  | .row xs => 1 + (xs.attach.map fun x => size x.1).sum
  | .fld ms => 1 + (ms.attach.map fun m => size m.1.2).sum
  | _ => 1
termination_by j => sizeOf j
decreasing_by
  · have := List.sizeOf_lt_of_mem x.2; simp; omega
  · have := mem_sz m.2; simp; omega
theorem size_row (xs : List J) : size (.row xs) = 1 + (xs.map size).sum := by
  rw [size, att xs size]
theorem size_fld (ms : List (Nm × J)) : size (.fld ms) = 1 + (ms.map fun m => size m.2).sum := by
  rw [size, att ms (fun m : Nm × J => size m.2)]
def maxL (l : List Nat) : Nat := l.foldr max 0
def depth : J → Nat
  | .row xs => 1 + maxL (xs.attach.map fun x => depth x.1)
  | .fld ms => 1 + maxL (ms.attach.map fun m => depth m.1.2)
  | _ => 0
termination_by j => sizeOf j
decreasing_by
  · have := List.sizeOf_lt_of_mem x.2; simp; omega
  · have := mem_sz m.2; simp; omega
theorem depth_row (xs : List J) : depth (.row xs) = 1 + maxL (xs.map depth) := by
  rw [depth, att xs depth]
theorem depth_fld (ms : List (Nm × J)) : depth (.fld ms) = 1 + maxL (ms.map fun m => depth m.2) := by
  rw [depth, att ms (fun m : Nm × J => depth m.2)]
theorem depth_non : depth .non = 0 := by rw [depth]; all_goals exact fun _ h => nomatch h
theorem depth_bl (b : Bool) : depth (.bl b) = 0 := by rw [depth]; all_goals exact fun _ h => nomatch h
theorem depth_num (n p : Int) : depth (.num n p) = 0 := by rw [depth]; all_goals exact fun _ h => nomatch h
theorem depth_txt (cs : List Int) : depth (.txt cs) = 0 := by rw [depth]; all_goals exact fun _ h => nomatch h
theorem size_non : size .non = 1 := by rw [size]; all_goals exact fun _ h => nomatch h
theorem size_bl (b : Bool) : size (.bl b) = 1 := by rw [size]; all_goals exact fun _ h => nomatch h
theorem size_num (n p : Int) : size (.num n p) = 1 := by rw [size]; all_goals exact fun _ h => nomatch h
theorem size_txt (cs : List Int) : size (.txt cs) = 1 := by rw [size]; all_goals exact fun _ h => nomatch h
theorem maxL_le {l : List Nat} {n : Nat} : n ∈ l → n ≤ maxL l := by
  induction l with
  | nil => intro h; cases h
  | cons a r ih =>
    intro h
    show n ≤ max a (maxL r)
    rcases List.mem_cons.mp h with rfl | h
    · exact Nat.le_max_left _ _
    · exact Nat.le_trans (ih h) (Nat.le_max_right _ _)
theorem maxL_lub {l : List Nat} {n : Nat} (h : ∀ a ∈ l, a ≤ n) : maxL l ≤ n := by
  induction l with
  | nil => exact Nat.zero_le _
  | cons a r ih =>
    show max a (maxL r) ≤ n
    exact Nat.max_le.mpr ⟨h a (List.mem_cons_self), ih fun b hb => h b (List.mem_cons_of_mem _ hb)⟩
theorem depth_mem {x : J} {xs : List J} (h : x ∈ xs) : depth x < depth (.row xs) := by
  rw [depth_row]
  have := maxL_le (List.mem_map_of_mem (f := depth) h)
  omega
theorem depth_memf {m : Nm × J} {ms : List (Nm × J)} (h : m ∈ ms) : depth m.2 < depth (.fld ms) := by
  rw [depth_fld]
  have := maxL_le (List.mem_map_of_mem (f := fun m : Nm × J => depth m.2) h)
  omega
theorem sum_ge {l : List Nat} (h : ∀ a ∈ l, 1 ≤ a) : l.length ≤ l.sum := by
  induction l with
  | nil => exact Nat.le_refl _
  | cons a r ih =>
    have h1 := h a List.mem_cons_self
    have h2 := ih fun b hb => h b (List.mem_cons_of_mem _ hb)
    rw [List.length_cons, List.sum_cons]
    omega
theorem size_pos (j : J) : 1 ≤ size j := by
  cases j with
  | non => rw [size_non]; exact Nat.le_refl _
  | bl b => rw [size_bl]; exact Nat.le_refl _
  | num n p => rw [size_num]; exact Nat.le_refl _
  | txt cs => rw [size_txt]; exact Nat.le_refl _
  | row xs => rw [size_row]; omega
  | fld ms => rw [size_fld]; omega
theorem len_row (xs : List J) : xs.length < size (.row xs) := by
  rw [size_row]
  have := sum_ge (l := xs.map size) fun a ha => by
    obtain ⟨x, _, rfl⟩ := List.mem_map.mp ha
    exact size_pos x
  rw [List.length_map] at this
  omega
theorem len_fld (ms : List (Nm × J)) : ms.length < size (.fld ms) := by
  rw [size_fld]
  have := sum_ge (l := ms.map fun m => size m.2) fun a ha => by
    obtain ⟨x, _, rfl⟩ := List.mem_map.mp ha
    exact size_pos x.2
  rw [List.length_map] at this
  omega
theorem sum_mem {l : List Nat} {a : Nat} (h : a ∈ l) : a ≤ l.sum := by
  induction l with
  | nil => cases h
  | cons b r ih =>
    rw [List.sum_cons]
    rcases List.mem_cons.mp h with rfl | h
    · omega
    · have := ih h; omega
theorem size_mem {x : J} {xs : List J} (h : x ∈ xs) : size x < size (.row xs) := by
  rw [size_row]
  have := sum_mem (List.mem_map_of_mem (f := size) h)
  omega
theorem size_memf {m : Nm × J} {ms : List (Nm × J)} (h : m ∈ ms) : size m.2 < size (.fld ms) := by
  rw [size_fld]
  have := sum_mem (List.mem_map_of_mem (f := fun m : Nm × J => size m.2) h)
  omega
inductive Clean : J → Prop
  | non : Clean .non
  | bl (b : Bool) : Clean (.bl b)
  | num (n p : Int) : Clean (.num n p)
  | txt (cs : List Int) : Clean (.txt cs)
  | row {xs : List J} : (∀ x ∈ xs, Clean x) → Clean (.row xs)
  | fld {ms : List (Nm × J)} : (ms.map (·.1)).Nodup → (∀ m ∈ ms, Clean m.2) → Clean (.fld ms)

/-! ### how the functions on data go, applied: nothing is opened before what stands ahead is known -/
section
variable {S : Type}
def nxt (r : Option (Res S)) (b : FS S) : Option (Res S) := match r with
  | some (.nx D' s') => b D' s'
  | r => r
def bin2 (k : PyData → PyData → Option PyData) (x y : Option PyData) : Option PyData := x.bind fun x => y.bind fun y => k x y
def andO (x : Option Bool) (u : FT S) (D : Ds) (s : S) : Option Bool := x.bind fun c => if c = true then u D s else some false
def orO (x : Option Bool) (u : FT S) (D : Ds) (s : S) : Option Bool := x.bind fun c => if c = true then some true else u D s
def andVO (x : Option PyData) (u : FE S) (D : Ds) (s : S) : Option PyData := x.bind fun x => (asB x).bind fun c => if c = true then u D s else some (.bool false)
def ifO (x : Option Bool) (a b : FE S) (D : Ds) (s : S) : Option PyData := x.bind fun k => if k = true then a D s else b D s
def ifS (x : Option Bool) (a b : FS S) (D : Ds) (s : S) : Option (Res S) := x.bind fun k => if k = true then a D s else b D s
def consO (x : Option PyData) (y : Option (List PyData)) : Option (List PyData) := x.bind fun x => y.bind fun xs => some (x :: xs)
def callO (n : Nat) (F : List PyData → Option PyData) (x : Option (List PyData)) : Option PyData := x.bind fun ds => if ds.length = n then F ds else none
def tupO (x : Option (List PyData)) : Option PyData := x.bind fun xs => if xs.length ≤ sizeLine then some (.tuple xs) else none
def lstO (x : Option (List PyData)) : Option PyData := x.bind fun xs => if xs.length ≤ sizeLine then some (.list xs) else none
def asgO (i : Nat) (x : Option PyData) (D : Ds) (s : S) : Option (Res S) := x.bind fun d => some (.nx (D.set i (some d)) s)
def retO (x : Option PyData) (s : S) : Option (Res S) := x.bind fun d => some (.rt d s)
def notO (x : Option Bool) : Option Bool := x.bind fun c => some (!c)
def partO (x : Option PyData) : Option (Option Int) := x.bind fun d => (asI d).bind fun i => some (some i)
def slO (x : Option PyData) (l h : Option (Option Int)) : Option PyData := x.bind fun d => l.bind fun lo => h.bind fun hi => match d with
  | .tuple xs => some (.tuple (cutD xs lo hi))
  | _ => none
def forO (im : PyData → Option (List PyData)) (st : PyData → Ds → Option Ds) (f : FS S) (x : Option PyData) (D : Ds) (s : S) : Option (Res S) := x.bind fun d => (im d).bind fun xs => forL st f xs D s
def forO2 (st : PyData → Ds → Option Ds) (f : FS S) (x y : Option PyData) (D : Ds) (s : S) : Option (Res S) := x.bind fun d => y.bind fun d2 => (range2 d d2).bind fun xs => forL st f xs D s
def compO (im : PyData → Option (List PyData)) (i : Nat) (t : FT S) (e : FE S) (x : Option PyData) (D : Ds) (s : S) : Option PyData := x.bind fun d => (im d).bind fun xs => if xs.length ≤ sizeLine then (compL i t e xs D s).bind fun ys => some (.list ys) else none
def chO (p q : Int → Int → Bool) (x y : Option PyData) (c : FE S) (D : Ds) (s : S) : Option PyData := x.bind fun x => y.bind fun y => (gCmp p x y).bind fun k => (asB k).bind fun k => if k = true then (c D s).bind fun z => gCmp q y z else some (.bool false)
variable {D D' : Ds} {s s' : S} {a b c : FE S} {f g : FS S} {t u : FT S} {fa : FA S} {x y d : PyData} {xs : List PyData}
@[simp] theorem nxt_nx : nxt (some (.nx D' s')) f = f D' s' := nr rfl
@[simp] theorem nxt_rt : nxt (some (.rt d s')) f = some (.rt d s') := nr rfl
@[simp] theorem nxt_ro : nxt (some (.ro s')) f = some (.ro s') := nr rfl
@[simp] theorem bin2_s {k} : bin2 k (some x) (some y) = k x y := nr rfl
@[simp] theorem andO_t : andO (some true) u D s = u D s := nr rfl
@[simp] theorem andO_f : andO (some false) u D s = some false := nr rfl
@[simp] theorem orO_t : orO (some true) u D s = some true := nr rfl
@[simp] theorem orO_f : orO (some false) u D s = u D s := nr rfl
@[simp] theorem andVO_t : andVO (some (.bool true)) a D s = a D s := nr rfl
@[simp] theorem andVO_f : andVO (some (.bool false)) a D s = some (.bool false) := nr rfl
@[simp] theorem ifO_t : ifO (some true) a b D s = a D s := nr rfl
@[simp] theorem ifO_f : ifO (some false) a b D s = b D s := nr rfl
@[simp] theorem ifS_t : ifS (some true) f g D s = f D s := nr rfl
@[simp] theorem ifS_f : ifS (some false) f g D s = g D s := nr rfl
@[simp] theorem consO_s : consO (some x) (some xs) = some (x :: xs) := nr rfl
theorem callO_s {n F} (h : xs.length = n) : callO n F (some xs) = F xs := if_pos h
@[simp] theorem callO_1 {F} : callO 1 F (some [x]) = F [x] := nr rfl
@[simp] theorem callO_2 {F} : callO 2 F (some [x, y]) = F [x, y] := nr rfl
@[simp] theorem callO_3 {F} {z : PyData} : callO 3 F (some [x, y, z]) = F [x, y, z] := nr rfl
theorem small {n : Nat} (h : n ≤ 16777216) : n ≤ sizeLine := by rw [sizeLine_eq]; exact h
theorem tupO_s (h : xs.length ≤ 16777216) : tupO (some xs) = some (.tuple xs) := if_pos (small h)
theorem lstO_s (h : xs.length ≤ 16777216) : lstO (some xs) = some (.list xs) := if_pos (small h)
@[simp] theorem tupO_0 : tupO (some []) = some (.tuple []) := tupO_s (Nat.zero_le _)
@[simp] theorem tupO_1 : tupO (some [x]) = some (.tuple [x]) := tupO_s (by show 1 ≤ 16777216; decide)
@[simp] theorem tupO_2 : tupO (some [x, y]) = some (.tuple [x, y]) := tupO_s (by show 2 ≤ 16777216; decide)
@[simp] theorem tupO_3 {z : PyData} : tupO (some [x, y, z]) = some (.tuple [x, y, z]) := tupO_s (by show 3 ≤ 16777216; decide)
@[simp] theorem lstO_0 : lstO (some []) = some (.list []) := lstO_s (Nat.zero_le _)
@[simp] theorem lstO_1 : lstO (some [x]) = some (.list [x]) := lstO_s (by show 1 ≤ 16777216; decide)
@[simp] theorem lstO_2 : lstO (some [x, y]) = some (.list [x, y]) := lstO_s (by show 2 ≤ 16777216; decide)
@[simp] theorem lstO_3 {z : PyData} : lstO (some [x, y, z]) = some (.list [x, y, z]) := lstO_s (by show 3 ≤ 16777216; decide)
@[simp] theorem asgO_s {i : Nat} : asgO i (some d) D s = some (.nx (D.set i (some d)) s) := nr rfl
@[simp] theorem retO_s : retO (some d) s = some (.rt d s) := nr rfl
@[simp] theorem notO_s {k : Bool} : notO (some k) = some (!k) := nr rfl
@[simp] theorem partO_s {i : Int} : partO (some (.int i)) = some (some i) := nr rfl
@[simp] theorem slO_s {lo hi} : slO (some (.tuple xs)) (some lo) (some hi) = some (.tuple (cutD xs lo hi)) := nr rfl
@[simp] theorem forO_T {st} : forO itemsT st f (some (.tuple xs)) D s = forL st f xs D s := nr rfl
@[simp] theorem forO_L {st} : forO itemsL st f (some (.list xs)) D s = forL st f xs D s := nr rfl
theorem forO_R {st} (h : range1 d = some xs) : forO range1 st f (some d) D s = forL st f xs D s := by unfold forO; rw [Option.bind_some, h]; rfl
theorem forO2_R {st} (h : range2 x y = some xs) : forO2 st f (some x) (some y) D s = forL st f xs D s := by unfold forO2; rw [Option.bind_some, Option.bind_some, h]; rfl
theorem compO_T {i : Nat} {ys : List PyData} (h : xs.length ≤ 16777216) (hc : compL i t b xs D s = some ys) : compO itemsT i t b (some (.tuple xs)) D s = some (.list ys) := by
  show (if xs.length ≤ sizeLine then (compL i t b xs D s).bind fun ys => some (PyData.list ys) else none) = _
  rw [if_pos (small h), hc]; rfl
theorem compO_L {i : Nat} {ys : List PyData} (h : xs.length ≤ 16777216) (hc : compL i t b xs D s = some ys) : compO itemsL i t b (some (.list xs)) D s = some (.list ys) := by
  show (if xs.length ≤ sizeLine then (compL i t b xs D s).bind fun ys => some (PyData.list ys) else none) = _
  rw [if_pos (small h), hc]; rfl
theorem compO_R {i : Nat} {ys : List PyData} (hr : range1 d = some xs) (h : xs.length ≤ 16777216) (hc : compL i t b xs D s = some ys) : compO range1 i t b (some d) D s = some (.list ys) := by
  show ((range1 d).bind fun xs => if xs.length ≤ sizeLine then (compL i t b xs D s).bind fun ys => some (PyData.list ys) else none) = _
  rw [hr]
  show (if xs.length ≤ sizeLine then (compL i t b xs D s).bind fun ys => some (PyData.list ys) else none) = _
  rw [if_pos (small h), hc]; rfl
@[simp] theorem chO_t {p q : Int → Int → Bool} {i j : Int} (h : p i j = true) : chO p q (some (.int i)) (some (.int j)) c D s = (c D s).bind fun z => gCmp q (.int j) z := by
  show (if p i j = true then _ else _) = _
  rw [if_pos h]
@[simp] theorem chO_f {p q : Int → Int → Bool} {i j : Int} (h : p i j = false) : chO p q (some (.int i)) (some (.int j)) c D s = some (.bool false) := by
  show (if p i j = true then _ else _) = _
  rw [if_neg (by rw [h]; exact Bool.false_ne_true)]
/-! applied -/
@[simp] theorem fVar_ap {i : Nat} : fVar i D s = (D[i]?).getD none := nr rfl
@[simp] theorem fC_ap {d : PyData} : fC d D s = some d := nr rfl
@[simp] theorem fBin_ap {k} : fBin k a b D s = bin2 k (a D s) (b D s) := nr rfl
@[simp] theorem fUn_ap {k} : fUn k a D s = (a D s).bind k := nr rfl
@[simp] theorem fTst_ap : fTst a D s = (a D s).bind asB := nr rfl
@[simp] theorem fTru_ap : fTru a D s = (a D s).bind gTru := nr rfl
@[simp] theorem fAndT_ap : fAndT t u D s = andO (t D s) u D s := nr rfl
@[simp] theorem fOrT_ap : fOrT t u D s = orO (t D s) u D s := nr rfl
@[simp] theorem fNotT_ap : fNotT t D s = notO (t D s) := nr rfl
@[simp] theorem fAndV_ap : fAndV a b D s = andVO (a D s) b D s := nr rfl
@[simp] theorem fNil_ap : fNil D s = some [] := nr rfl
@[simp] theorem fCons_ap : fCons a fa D s = consO (a D s) (fa D s) := nr rfl
@[simp] theorem fIfE_ap : fIfE t a b D s = ifO (t D s) a b D s := nr rfl
@[simp] theorem fTup_ap : fTup fa D s = tupO (fa D s) := nr rfl
@[simp] theorem fLst_ap : fLst fa D s = lstO (fa D s) := nr rfl
@[simp] theorem fYes_ap : fYes D s = some true := nr rfl
@[simp] theorem fCall_ap {n F} : fCall n F fa D s = callO n F (fa D s) := nr rfl
@[simp] theorem oNone_ap : (oNone : FO S) D s = some none := nr rfl
@[simp] theorem oSome_ap : oSome a D s = partO (a D s) := nr rfl
@[simp] theorem fSl_ap {l h : FO S} : fSl a l h D s = slO (a D s) (l D s) (h D s) := nr rfl
@[simp] theorem fChain_ap {p q : Int → Int → Bool} : fChain p q a b c D s = chO p q (a D s) (b D s) c D s := nr rfl
@[simp] theorem sNil_ap : (sNil : FS S) D s = some (.nx D s) := nr rfl
@[simp] theorem sAsg_ap {i : Nat} : sAsg i a D s = asgO i (a D s) D s := nr rfl
@[simp] theorem sRet_ap : sRet a D s = retO (a D s) s := nr rfl
@[simp] theorem sIf_ap : sIf t f g D s = ifS (t D s) f g D s := nr rfl
@[simp] theorem sSeq_ap : sSeq f g D s = nxt (f D s) g := nr rfl
theorem sSeq_nx (h : f D s = some (.nx D' s')) : sSeq f g D s = g D' s' := by rw [sSeq_ap, h]; rfl
theorem sSeq_rt (h : f D s = some (.rt d s')) : sSeq f g D s = some (.rt d s') := by rw [sSeq_ap, h]; rfl
@[simp] theorem sFor_ap {im st} : sFor im st a f D s = forO im st f (a D s) D s := nr rfl
@[simp] theorem sFor2_ap {st} : sFor2 st a b f D s = forO2 st f (a D s) (b D s) D s := nr rfl
@[simp] theorem forL_nil {st} : forL st f [] D s = some (.nx D s) := nr rfl
def after (r : Option (Res S)) (k : FS S) : Option (Res S) := match r with
  | some (.nx D' s') => k D' s'
  | some (.ct D' s') => k D' s'
  | some (.bk D' s') => some (.nx D' s')
  | r => r
@[simp] theorem after_nx : after (some (.nx D s)) f = f D s := nr rfl
@[simp] theorem after_rt : after (some (.rt d s)) f = some (.rt d s) := nr rfl
theorem forL_1 {i : Nat} {x xs} : forL (st1 i) f (x :: xs) D s = after (f (D.set i (some x)) s) (forL (st1 i) f xs) := rfl
theorem forL_cons {st x xs} : forL st f (x :: xs) D s = (st x D).bind fun D1 => match f D1 s with
    | some (.nx D' s') => forL st f xs D' s'
    | some (.ct D' s') => forL st f xs D' s'
    | some (.bk D' s') => some (.nx D' s')
    | r => r := rfl
@[simp] theorem fComp_ap {im} {i : Nat} {t : FT S} : fComp im i a t b D s = compO im i t b (a D s) D s := nr rfl
@[simp] theorem compL_nil {i : Nat} : compL i t b [] D s = some [] := nr rfl
theorem compL_cons {i : Nat} {x xs} : compL i t b (x :: xs) D s = (t (D.set i (some x)) s).bind fun k =>
      if k = true then (b (D.set i (some x)) s).bind fun y => (compL i t b xs D s).bind fun ys => some (y :: ys) else compL i t b xs D s := rfl
@[simp] theorem st1_ap {i : Nat} {x : PyData} : st1 i x D = some (D.set i (some x)) := nr rfl
end
@[simp] theorem asB_ap {b : Bool} : asB (.bool b) = some b := nr rfl
@[simp] theorem asI_ap {i : Int} : asI (.int i) = some i := nr rfl
@[simp] theorem gTru_list {xs} : gTru (.list xs) = some (!xs.isEmpty) := nr rfl
@[simp] theorem gTru_tuple {xs} : gTru (.tuple xs) = some (!xs.isEmpty) := nr rfl
@[simp] theorem gTru_bool {b} : gTru (.bool b) = some b := nr rfl
@[simp] theorem gAdd_int {i j : Int} : gAdd (.int i) (.int j) = some (.int (i + j)) := nr rfl
theorem gAdd_tup {xs ys : List PyData} (h : xs.length + ys.length ≤ sizeLine) : gAdd (.tuple xs) (.tuple ys) = some (.tuple (xs ++ ys)) := by
  show (if xs.length + ys.length ≤ sizeLine then some (PyData.tuple (xs ++ ys)) else none) = _
  rw [if_pos h]
@[simp] theorem gSub_int {i j : Int} : gSub (.int i) (.int j) = some (.int (i - j)) := nr rfl
@[simp] theorem gNeg_int {i : Int} : gNeg (.int i) = some (.int (-i)) := nr rfl
theorem gCmp_int {p} {i j : Int} : gCmp p (.int i) (.int j) = some (.bool (p i j)) := rfl
@[simp] theorem gCmp_lt {i j : Int} : gCmp pLt (.int i) (.int j) = some (.bool (decide (i < j))) := nr rfl
@[simp] theorem gCmp_le {i j : Int} : gCmp pLe (.int i) (.int j) = some (.bool (decide (i ≤ j))) := nr rfl
@[simp] theorem gCmp_gt {i j : Int} : gCmp pGt (.int i) (.int j) = some (.bool (decide (j < i))) := nr rfl
@[simp] theorem gCmp_ge {i j : Int} : gCmp pGe (.int i) (.int j) = some (.bool (decide (j ≤ i))) := nr rfl
@[simp] theorem pLe_ap {i j : Int} : pLe i j = decide (i ≤ j) := nr rfl
theorem gMod_int {i j : Int} (h : j ≠ 0) : gMod (.int i) (.int j) = some (.int (i.fmod j)) := by
  show (if j ≠ 0 then some (PyData.int (i.fmod j)) else none) = _
  rw [if_pos h]
theorem gFdiv_int {i j : Int} (h : j ≠ 0 ∧ j.natAbs < 1073741824) : gFdiv (.int i) (.int j) = some (.int (i.fdiv j)) := by
  show (if j ≠ 0 ∧ j.natAbs < 1073741824 then some (PyData.int (i.fdiv j)) else none) = _
  rw [if_pos h]
theorem gMul_int {i j : Int} (h : (-(2 ^ 64) < i ∧ i < 2 ^ 64) ∨ (-(2 ^ 64) < j ∧ j < 2 ^ 64)) : gMul (.int i) (.int j) = some (.int (i * j)) := by
  show (if (-(2 ^ 64) < i ∧ i < 2 ^ 64) ∨ (-(2 ^ 64) < j ∧ j < 2 ^ 64) then some (PyData.int (i * j)) else none) = _
  rw [if_pos h]
@[simp] theorem gLen_list {xs} : gLen (.list xs) = some (.int xs.length) := nr rfl
@[simp] theorem gLen_tuple {xs} : gLen (.tuple xs) = some (.int xs.length) := nr rfl
@[simp] theorem gIx_list {xs i} : gIx (.list xs) (.int i) = L2.atI xs i := nr rfl
@[simp] theorem gIx_tuple {xs i} : gIx (.tuple xs) (.int i) = L2.atI xs i := nr rfl
@[simp] theorem gTupleOf_list {xs} : gTupleOf (.list xs) = some (.tuple xs) := nr rfl
@[simp] theorem gTupleOf_tuple {xs} : gTupleOf (.tuple xs) = some (.tuple xs) := nr rfl
theorem atI_nat {α : Type} (xs : List α) (k : Nat) : L2.atI xs (k : Int) = xs[k]? := by
  unfold L2.atI L2.ixN
  rw [if_pos (by omega)]
  by_cases h : k < xs.length
  · rw [if_pos (by omega)]
    rfl
  · rw [if_neg (by omega), List.getElem?_eq_none (by omega)]
    rfl
@[simp] theorem atI_0 {α : Type} {a : α} {r : List α} : L2.atI (a :: r) 0 = some a := by
  have := atI_nat (a :: r) 0
  simpa using this
@[simp] theorem atI_1 {α : Type} {a b : α} {r : List α} : L2.atI (a :: b :: r) 1 = some b := by
  have := atI_nat (a :: b :: r) 1
  simpa using this
@[simp] theorem atI_2 {α : Type} {a b c : α} {r : List α} : L2.atI (a :: b :: c :: r) 2 = some c := by
  have := atI_nat (a :: b :: c :: r) 2
  simpa using this
end Pl

namespace Pl
open PySem DL Pg
/-! ### == -/
theorem gEq_of {d e : PyData} (h1 : d.canLay0 = true) (h2 : e.canLay0 = true) (h3 : min d.depth e.depth ≤ 200) : gEq d e = some (.bool (PyData.eqv d e)) := by
  unfold gEq
  rw [if_pos ⟨h1, h2, h3⟩]
theorem gNe_of {d e : PyData} (h1 : d.canLay0 = true) (h2 : e.canLay0 = true) (h3 : min d.depth e.depth ≤ 200) : gNe d e = some (.bool (!PyData.eqv d e)) := by
  unfold gNe
  rw [if_pos ⟨h1, h2, h3⟩]
theorem cl_ints : ∀ ns : List Int, PyData.canLayAll0 (ns.map PyData.int) = true
  | [] => by rw [List.map_nil, PyData.canLayAll0]
  | n :: r => by rw [List.map_cons, PyData.canLayAll0, PyData.canLay0, cl_ints r]; rfl
theorem cl_nm (n : Nm) : (nmD n).canLay0 = true := by unfold nmD; rw [PyData.canLay0]; exact cl_ints n
theorem dp_ints : ∀ ns : List Int, PyData.depthAll (ns.map PyData.int) = 0
  | [] => by rw [List.map_nil, PyData.depthAll]
  | n :: r => by rw [List.map_cons, PyData.depthAll, PyData.depth, dp_ints r]; rfl
theorem dp_nm (n : Nm) : (nmD n).depth = 1 := by unfold nmD; rw [PyData.depth, dp_ints]
theorem eqv_ints : ∀ a b : List Int, PyData.eqvAll (a.map PyData.int) (b.map PyData.int) = decide (a = b)
  | [], [] => by rw [List.map_nil, PyData.eqvAll]; rfl
  | [], _ :: _ => by rw [List.map_nil, List.map_cons, PyData.eqvAll]; rfl
  | _ :: _, [] => by rw [List.map_nil, List.map_cons, PyData.eqvAll]; rfl
  | x :: a, y :: b => by
    rw [List.map_cons, List.map_cons, PyData.eqvAll, PyData.eqv, eqv_ints a b]
    by_cases h : x = y
    · subst h; simp
    · simp [h]
@[simp] theorem gEq_nm (a b : Nm) : gEq (nmD a) (nmD b) = some (.bool (decide (a = b))) := by
  rw [gEq_of (cl_nm a) (cl_nm b) (by rw [dp_nm, dp_nm]; decide)]
  unfold nmD
  rw [PyData.eqv, eqv_ints]
@[simp] theorem gEq_int (i j : Int) : gEq (.int i) (.int j) = some (.bool (decide (i = j))) := by
  rw [gEq_of (by rw [PyData.canLay0]) (by rw [PyData.canLay0]) (by simp [PyData.depth])]
  rw [PyData.eqv]
  by_cases h : i = j
  · simp [h]
  · simp [h]
@[simp] theorem gNe_int (i j : Int) : gNe (.int i) (.int j) = some (.bool (!decide (i = j))) := by
  rw [gNe_of (by rw [PyData.canLay0]) (by rw [PyData.canLay0]) (by simp [PyData.depth])]
  rw [PyData.eqv]
  by_cases h : i = j
  · simp [h]
  · simp [h]
/-- the words that the program and the law write -/
def words : List Str := ["row", "fields", "number", "text", "", "add", "remove", "replace", "move", "copy", "test"]
theorem words_ok : ∀ x ∈ words, PyData.strOk x = true := by decide +kernel
theorem gEq_str {x y : Str} (hx : PyData.strOk x = true) (hy : PyData.strOk y = true) : gEq (.str x) (.str y) = some (.bool (x == y)) := by
  rw [gEq_of (by rw [PyData.canLay0]; exact hx) (by rw [PyData.canLay0]; exact hy) (by simp [PyData.depth]), PyData.eqv]
theorem gNe_str {x y : Str} (hx : PyData.strOk x = true) (hy : PyData.strOk y = true) : gNe (.str x) (.str y) = some (.bool (!(x == y))) := by
  rw [gNe_of (by rw [PyData.canLay0]; exact hx) (by rw [PyData.canLay0]; exact hy) (by simp [PyData.depth]), PyData.eqv]
/-- a word by its number -/
inductive Wd where
  | row | fields | number | text | none | add | remove | replace | move | copy | test
  deriving DecidableEq
def Wd.s : Wd → Str
  | .row => "row" | .fields => "fields" | .number => "number" | .text => "text" | .none => "" | .add => "add" | .remove => "remove" | .replace => "replace" | .move => "move" | .copy => "copy" | .test => "test"
theorem Wd.ok (a : Wd) : PyData.strOk a.s = true := by cases a <;> decide +kernel
theorem Wd.eq (a b : Wd) : (a.s == b.s) = decide (a = b) := by cases a <;> cases b <;> decide +kernel
theorem gEq_wd (a b : Wd) : gEq (.str a.s) (.str b.s) = some (.bool (decide (a = b))) := by rw [gEq_str a.ok b.ok, Wd.eq]
theorem gNe_wd (a b : Wd) : gNe (.str a.s) (.str b.s) = some (.bool (!decide (a = b))) := by rw [gNe_str a.ok b.ok, Wd.eq]
@[simp] theorem qe_row_row : gEq (.str "row") (.str "row") = some (.bool true) := gEq_wd .row .row
@[simp] theorem qn_row_row : gNe (.str "row") (.str "row") = some (.bool false) := gNe_wd .row .row
@[simp] theorem qe_row_fields : gEq (.str "row") (.str "fields") = some (.bool false) := gEq_wd .row .fields
@[simp] theorem qn_row_fields : gNe (.str "row") (.str "fields") = some (.bool true) := gNe_wd .row .fields
@[simp] theorem qe_row_number : gEq (.str "row") (.str "number") = some (.bool false) := gEq_wd .row .number
@[simp] theorem qn_row_number : gNe (.str "row") (.str "number") = some (.bool true) := gNe_wd .row .number
@[simp] theorem qe_row_text : gEq (.str "row") (.str "text") = some (.bool false) := gEq_wd .row .text
@[simp] theorem qn_row_text : gNe (.str "row") (.str "text") = some (.bool true) := gNe_wd .row .text
@[simp] theorem qe_row_none : gEq (.str "row") (.str "") = some (.bool false) := gEq_wd .row .none
@[simp] theorem qn_row_none : gNe (.str "row") (.str "") = some (.bool true) := gNe_wd .row .none
@[simp] theorem qe_row_add : gEq (.str "row") (.str "add") = some (.bool false) := gEq_wd .row .add
@[simp] theorem qn_row_add : gNe (.str "row") (.str "add") = some (.bool true) := gNe_wd .row .add
@[simp] theorem qe_row_remove : gEq (.str "row") (.str "remove") = some (.bool false) := gEq_wd .row .remove
@[simp] theorem qn_row_remove : gNe (.str "row") (.str "remove") = some (.bool true) := gNe_wd .row .remove
@[simp] theorem qe_row_replace : gEq (.str "row") (.str "replace") = some (.bool false) := gEq_wd .row .replace
@[simp] theorem qn_row_replace : gNe (.str "row") (.str "replace") = some (.bool true) := gNe_wd .row .replace
@[simp] theorem qe_row_move : gEq (.str "row") (.str "move") = some (.bool false) := gEq_wd .row .move
@[simp] theorem qn_row_move : gNe (.str "row") (.str "move") = some (.bool true) := gNe_wd .row .move
@[simp] theorem qe_row_copy : gEq (.str "row") (.str "copy") = some (.bool false) := gEq_wd .row .copy
@[simp] theorem qn_row_copy : gNe (.str "row") (.str "copy") = some (.bool true) := gNe_wd .row .copy
@[simp] theorem qe_row_test : gEq (.str "row") (.str "test") = some (.bool false) := gEq_wd .row .test
@[simp] theorem qn_row_test : gNe (.str "row") (.str "test") = some (.bool true) := gNe_wd .row .test
@[simp] theorem qe_fields_row : gEq (.str "fields") (.str "row") = some (.bool false) := gEq_wd .fields .row
@[simp] theorem qn_fields_row : gNe (.str "fields") (.str "row") = some (.bool true) := gNe_wd .fields .row
@[simp] theorem qe_fields_fields : gEq (.str "fields") (.str "fields") = some (.bool true) := gEq_wd .fields .fields
@[simp] theorem qn_fields_fields : gNe (.str "fields") (.str "fields") = some (.bool false) := gNe_wd .fields .fields
@[simp] theorem qe_fields_number : gEq (.str "fields") (.str "number") = some (.bool false) := gEq_wd .fields .number
@[simp] theorem qn_fields_number : gNe (.str "fields") (.str "number") = some (.bool true) := gNe_wd .fields .number
@[simp] theorem qe_fields_text : gEq (.str "fields") (.str "text") = some (.bool false) := gEq_wd .fields .text
@[simp] theorem qn_fields_text : gNe (.str "fields") (.str "text") = some (.bool true) := gNe_wd .fields .text
@[simp] theorem qe_fields_none : gEq (.str "fields") (.str "") = some (.bool false) := gEq_wd .fields .none
@[simp] theorem qn_fields_none : gNe (.str "fields") (.str "") = some (.bool true) := gNe_wd .fields .none
@[simp] theorem qe_fields_add : gEq (.str "fields") (.str "add") = some (.bool false) := gEq_wd .fields .add
@[simp] theorem qn_fields_add : gNe (.str "fields") (.str "add") = some (.bool true) := gNe_wd .fields .add
@[simp] theorem qe_fields_remove : gEq (.str "fields") (.str "remove") = some (.bool false) := gEq_wd .fields .remove
@[simp] theorem qn_fields_remove : gNe (.str "fields") (.str "remove") = some (.bool true) := gNe_wd .fields .remove
@[simp] theorem qe_fields_replace : gEq (.str "fields") (.str "replace") = some (.bool false) := gEq_wd .fields .replace
@[simp] theorem qn_fields_replace : gNe (.str "fields") (.str "replace") = some (.bool true) := gNe_wd .fields .replace
@[simp] theorem qe_fields_move : gEq (.str "fields") (.str "move") = some (.bool false) := gEq_wd .fields .move
@[simp] theorem qn_fields_move : gNe (.str "fields") (.str "move") = some (.bool true) := gNe_wd .fields .move
@[simp] theorem qe_fields_copy : gEq (.str "fields") (.str "copy") = some (.bool false) := gEq_wd .fields .copy
@[simp] theorem qn_fields_copy : gNe (.str "fields") (.str "copy") = some (.bool true) := gNe_wd .fields .copy
@[simp] theorem qe_fields_test : gEq (.str "fields") (.str "test") = some (.bool false) := gEq_wd .fields .test
@[simp] theorem qn_fields_test : gNe (.str "fields") (.str "test") = some (.bool true) := gNe_wd .fields .test
@[simp] theorem qe_number_row : gEq (.str "number") (.str "row") = some (.bool false) := gEq_wd .number .row
@[simp] theorem qn_number_row : gNe (.str "number") (.str "row") = some (.bool true) := gNe_wd .number .row
@[simp] theorem qe_number_fields : gEq (.str "number") (.str "fields") = some (.bool false) := gEq_wd .number .fields
@[simp] theorem qn_number_fields : gNe (.str "number") (.str "fields") = some (.bool true) := gNe_wd .number .fields
@[simp] theorem qe_number_number : gEq (.str "number") (.str "number") = some (.bool true) := gEq_wd .number .number
@[simp] theorem qn_number_number : gNe (.str "number") (.str "number") = some (.bool false) := gNe_wd .number .number
@[simp] theorem qe_number_text : gEq (.str "number") (.str "text") = some (.bool false) := gEq_wd .number .text
@[simp] theorem qn_number_text : gNe (.str "number") (.str "text") = some (.bool true) := gNe_wd .number .text
@[simp] theorem qe_number_none : gEq (.str "number") (.str "") = some (.bool false) := gEq_wd .number .none
@[simp] theorem qn_number_none : gNe (.str "number") (.str "") = some (.bool true) := gNe_wd .number .none
@[simp] theorem qe_number_add : gEq (.str "number") (.str "add") = some (.bool false) := gEq_wd .number .add
@[simp] theorem qn_number_add : gNe (.str "number") (.str "add") = some (.bool true) := gNe_wd .number .add
@[simp] theorem qe_number_remove : gEq (.str "number") (.str "remove") = some (.bool false) := gEq_wd .number .remove
@[simp] theorem qn_number_remove : gNe (.str "number") (.str "remove") = some (.bool true) := gNe_wd .number .remove
@[simp] theorem qe_number_replace : gEq (.str "number") (.str "replace") = some (.bool false) := gEq_wd .number .replace
@[simp] theorem qn_number_replace : gNe (.str "number") (.str "replace") = some (.bool true) := gNe_wd .number .replace
@[simp] theorem qe_number_move : gEq (.str "number") (.str "move") = some (.bool false) := gEq_wd .number .move
@[simp] theorem qn_number_move : gNe (.str "number") (.str "move") = some (.bool true) := gNe_wd .number .move
@[simp] theorem qe_number_copy : gEq (.str "number") (.str "copy") = some (.bool false) := gEq_wd .number .copy
@[simp] theorem qn_number_copy : gNe (.str "number") (.str "copy") = some (.bool true) := gNe_wd .number .copy
@[simp] theorem qe_number_test : gEq (.str "number") (.str "test") = some (.bool false) := gEq_wd .number .test
@[simp] theorem qn_number_test : gNe (.str "number") (.str "test") = some (.bool true) := gNe_wd .number .test
@[simp] theorem qe_text_row : gEq (.str "text") (.str "row") = some (.bool false) := gEq_wd .text .row
@[simp] theorem qn_text_row : gNe (.str "text") (.str "row") = some (.bool true) := gNe_wd .text .row
@[simp] theorem qe_text_fields : gEq (.str "text") (.str "fields") = some (.bool false) := gEq_wd .text .fields
@[simp] theorem qn_text_fields : gNe (.str "text") (.str "fields") = some (.bool true) := gNe_wd .text .fields
@[simp] theorem qe_text_number : gEq (.str "text") (.str "number") = some (.bool false) := gEq_wd .text .number
@[simp] theorem qn_text_number : gNe (.str "text") (.str "number") = some (.bool true) := gNe_wd .text .number
@[simp] theorem qe_text_text : gEq (.str "text") (.str "text") = some (.bool true) := gEq_wd .text .text
@[simp] theorem qn_text_text : gNe (.str "text") (.str "text") = some (.bool false) := gNe_wd .text .text
@[simp] theorem qe_text_none : gEq (.str "text") (.str "") = some (.bool false) := gEq_wd .text .none
@[simp] theorem qn_text_none : gNe (.str "text") (.str "") = some (.bool true) := gNe_wd .text .none
@[simp] theorem qe_text_add : gEq (.str "text") (.str "add") = some (.bool false) := gEq_wd .text .add
@[simp] theorem qn_text_add : gNe (.str "text") (.str "add") = some (.bool true) := gNe_wd .text .add
@[simp] theorem qe_text_remove : gEq (.str "text") (.str "remove") = some (.bool false) := gEq_wd .text .remove
@[simp] theorem qn_text_remove : gNe (.str "text") (.str "remove") = some (.bool true) := gNe_wd .text .remove
@[simp] theorem qe_text_replace : gEq (.str "text") (.str "replace") = some (.bool false) := gEq_wd .text .replace
@[simp] theorem qn_text_replace : gNe (.str "text") (.str "replace") = some (.bool true) := gNe_wd .text .replace
@[simp] theorem qe_text_move : gEq (.str "text") (.str "move") = some (.bool false) := gEq_wd .text .move
@[simp] theorem qn_text_move : gNe (.str "text") (.str "move") = some (.bool true) := gNe_wd .text .move
@[simp] theorem qe_text_copy : gEq (.str "text") (.str "copy") = some (.bool false) := gEq_wd .text .copy
@[simp] theorem qn_text_copy : gNe (.str "text") (.str "copy") = some (.bool true) := gNe_wd .text .copy
@[simp] theorem qe_text_test : gEq (.str "text") (.str "test") = some (.bool false) := gEq_wd .text .test
@[simp] theorem qn_text_test : gNe (.str "text") (.str "test") = some (.bool true) := gNe_wd .text .test
@[simp] theorem qe_none_row : gEq (.str "") (.str "row") = some (.bool false) := gEq_wd .none .row
@[simp] theorem qn_none_row : gNe (.str "") (.str "row") = some (.bool true) := gNe_wd .none .row
@[simp] theorem qe_none_fields : gEq (.str "") (.str "fields") = some (.bool false) := gEq_wd .none .fields
@[simp] theorem qn_none_fields : gNe (.str "") (.str "fields") = some (.bool true) := gNe_wd .none .fields
@[simp] theorem qe_none_number : gEq (.str "") (.str "number") = some (.bool false) := gEq_wd .none .number
@[simp] theorem qn_none_number : gNe (.str "") (.str "number") = some (.bool true) := gNe_wd .none .number
@[simp] theorem qe_none_text : gEq (.str "") (.str "text") = some (.bool false) := gEq_wd .none .text
@[simp] theorem qn_none_text : gNe (.str "") (.str "text") = some (.bool true) := gNe_wd .none .text
@[simp] theorem qe_none_none : gEq (.str "") (.str "") = some (.bool true) := gEq_wd .none .none
@[simp] theorem qn_none_none : gNe (.str "") (.str "") = some (.bool false) := gNe_wd .none .none
@[simp] theorem qe_none_add : gEq (.str "") (.str "add") = some (.bool false) := gEq_wd .none .add
@[simp] theorem qn_none_add : gNe (.str "") (.str "add") = some (.bool true) := gNe_wd .none .add
@[simp] theorem qe_none_remove : gEq (.str "") (.str "remove") = some (.bool false) := gEq_wd .none .remove
@[simp] theorem qn_none_remove : gNe (.str "") (.str "remove") = some (.bool true) := gNe_wd .none .remove
@[simp] theorem qe_none_replace : gEq (.str "") (.str "replace") = some (.bool false) := gEq_wd .none .replace
@[simp] theorem qn_none_replace : gNe (.str "") (.str "replace") = some (.bool true) := gNe_wd .none .replace
@[simp] theorem qe_none_move : gEq (.str "") (.str "move") = some (.bool false) := gEq_wd .none .move
@[simp] theorem qn_none_move : gNe (.str "") (.str "move") = some (.bool true) := gNe_wd .none .move
@[simp] theorem qe_none_copy : gEq (.str "") (.str "copy") = some (.bool false) := gEq_wd .none .copy
@[simp] theorem qn_none_copy : gNe (.str "") (.str "copy") = some (.bool true) := gNe_wd .none .copy
@[simp] theorem qe_none_test : gEq (.str "") (.str "test") = some (.bool false) := gEq_wd .none .test
@[simp] theorem qn_none_test : gNe (.str "") (.str "test") = some (.bool true) := gNe_wd .none .test
@[simp] theorem qe_add_row : gEq (.str "add") (.str "row") = some (.bool false) := gEq_wd .add .row
@[simp] theorem qn_add_row : gNe (.str "add") (.str "row") = some (.bool true) := gNe_wd .add .row
@[simp] theorem qe_add_fields : gEq (.str "add") (.str "fields") = some (.bool false) := gEq_wd .add .fields
@[simp] theorem qn_add_fields : gNe (.str "add") (.str "fields") = some (.bool true) := gNe_wd .add .fields
@[simp] theorem qe_add_number : gEq (.str "add") (.str "number") = some (.bool false) := gEq_wd .add .number
@[simp] theorem qn_add_number : gNe (.str "add") (.str "number") = some (.bool true) := gNe_wd .add .number
@[simp] theorem qe_add_text : gEq (.str "add") (.str "text") = some (.bool false) := gEq_wd .add .text
@[simp] theorem qn_add_text : gNe (.str "add") (.str "text") = some (.bool true) := gNe_wd .add .text
@[simp] theorem qe_add_none : gEq (.str "add") (.str "") = some (.bool false) := gEq_wd .add .none
@[simp] theorem qn_add_none : gNe (.str "add") (.str "") = some (.bool true) := gNe_wd .add .none
@[simp] theorem qe_add_add : gEq (.str "add") (.str "add") = some (.bool true) := gEq_wd .add .add
@[simp] theorem qn_add_add : gNe (.str "add") (.str "add") = some (.bool false) := gNe_wd .add .add
@[simp] theorem qe_add_remove : gEq (.str "add") (.str "remove") = some (.bool false) := gEq_wd .add .remove
@[simp] theorem qn_add_remove : gNe (.str "add") (.str "remove") = some (.bool true) := gNe_wd .add .remove
@[simp] theorem qe_add_replace : gEq (.str "add") (.str "replace") = some (.bool false) := gEq_wd .add .replace
@[simp] theorem qn_add_replace : gNe (.str "add") (.str "replace") = some (.bool true) := gNe_wd .add .replace
@[simp] theorem qe_add_move : gEq (.str "add") (.str "move") = some (.bool false) := gEq_wd .add .move
@[simp] theorem qn_add_move : gNe (.str "add") (.str "move") = some (.bool true) := gNe_wd .add .move
@[simp] theorem qe_add_copy : gEq (.str "add") (.str "copy") = some (.bool false) := gEq_wd .add .copy
@[simp] theorem qn_add_copy : gNe (.str "add") (.str "copy") = some (.bool true) := gNe_wd .add .copy
@[simp] theorem qe_add_test : gEq (.str "add") (.str "test") = some (.bool false) := gEq_wd .add .test
@[simp] theorem qn_add_test : gNe (.str "add") (.str "test") = some (.bool true) := gNe_wd .add .test
@[simp] theorem qe_remove_row : gEq (.str "remove") (.str "row") = some (.bool false) := gEq_wd .remove .row
@[simp] theorem qn_remove_row : gNe (.str "remove") (.str "row") = some (.bool true) := gNe_wd .remove .row
@[simp] theorem qe_remove_fields : gEq (.str "remove") (.str "fields") = some (.bool false) := gEq_wd .remove .fields
@[simp] theorem qn_remove_fields : gNe (.str "remove") (.str "fields") = some (.bool true) := gNe_wd .remove .fields
@[simp] theorem qe_remove_number : gEq (.str "remove") (.str "number") = some (.bool false) := gEq_wd .remove .number
@[simp] theorem qn_remove_number : gNe (.str "remove") (.str "number") = some (.bool true) := gNe_wd .remove .number
@[simp] theorem qe_remove_text : gEq (.str "remove") (.str "text") = some (.bool false) := gEq_wd .remove .text
@[simp] theorem qn_remove_text : gNe (.str "remove") (.str "text") = some (.bool true) := gNe_wd .remove .text
@[simp] theorem qe_remove_none : gEq (.str "remove") (.str "") = some (.bool false) := gEq_wd .remove .none
@[simp] theorem qn_remove_none : gNe (.str "remove") (.str "") = some (.bool true) := gNe_wd .remove .none
@[simp] theorem qe_remove_add : gEq (.str "remove") (.str "add") = some (.bool false) := gEq_wd .remove .add
@[simp] theorem qn_remove_add : gNe (.str "remove") (.str "add") = some (.bool true) := gNe_wd .remove .add
@[simp] theorem qe_remove_remove : gEq (.str "remove") (.str "remove") = some (.bool true) := gEq_wd .remove .remove
@[simp] theorem qn_remove_remove : gNe (.str "remove") (.str "remove") = some (.bool false) := gNe_wd .remove .remove
@[simp] theorem qe_remove_replace : gEq (.str "remove") (.str "replace") = some (.bool false) := gEq_wd .remove .replace
@[simp] theorem qn_remove_replace : gNe (.str "remove") (.str "replace") = some (.bool true) := gNe_wd .remove .replace
@[simp] theorem qe_remove_move : gEq (.str "remove") (.str "move") = some (.bool false) := gEq_wd .remove .move
@[simp] theorem qn_remove_move : gNe (.str "remove") (.str "move") = some (.bool true) := gNe_wd .remove .move
@[simp] theorem qe_remove_copy : gEq (.str "remove") (.str "copy") = some (.bool false) := gEq_wd .remove .copy
@[simp] theorem qn_remove_copy : gNe (.str "remove") (.str "copy") = some (.bool true) := gNe_wd .remove .copy
@[simp] theorem qe_remove_test : gEq (.str "remove") (.str "test") = some (.bool false) := gEq_wd .remove .test
@[simp] theorem qn_remove_test : gNe (.str "remove") (.str "test") = some (.bool true) := gNe_wd .remove .test
@[simp] theorem qe_replace_row : gEq (.str "replace") (.str "row") = some (.bool false) := gEq_wd .replace .row
@[simp] theorem qn_replace_row : gNe (.str "replace") (.str "row") = some (.bool true) := gNe_wd .replace .row
@[simp] theorem qe_replace_fields : gEq (.str "replace") (.str "fields") = some (.bool false) := gEq_wd .replace .fields
@[simp] theorem qn_replace_fields : gNe (.str "replace") (.str "fields") = some (.bool true) := gNe_wd .replace .fields
@[simp] theorem qe_replace_number : gEq (.str "replace") (.str "number") = some (.bool false) := gEq_wd .replace .number
@[simp] theorem qn_replace_number : gNe (.str "replace") (.str "number") = some (.bool true) := gNe_wd .replace .number
@[simp] theorem qe_replace_text : gEq (.str "replace") (.str "text") = some (.bool false) := gEq_wd .replace .text
@[simp] theorem qn_replace_text : gNe (.str "replace") (.str "text") = some (.bool true) := gNe_wd .replace .text
@[simp] theorem qe_replace_none : gEq (.str "replace") (.str "") = some (.bool false) := gEq_wd .replace .none
@[simp] theorem qn_replace_none : gNe (.str "replace") (.str "") = some (.bool true) := gNe_wd .replace .none
@[simp] theorem qe_replace_add : gEq (.str "replace") (.str "add") = some (.bool false) := gEq_wd .replace .add
@[simp] theorem qn_replace_add : gNe (.str "replace") (.str "add") = some (.bool true) := gNe_wd .replace .add
@[simp] theorem qe_replace_remove : gEq (.str "replace") (.str "remove") = some (.bool false) := gEq_wd .replace .remove
@[simp] theorem qn_replace_remove : gNe (.str "replace") (.str "remove") = some (.bool true) := gNe_wd .replace .remove
@[simp] theorem qe_replace_replace : gEq (.str "replace") (.str "replace") = some (.bool true) := gEq_wd .replace .replace
@[simp] theorem qn_replace_replace : gNe (.str "replace") (.str "replace") = some (.bool false) := gNe_wd .replace .replace
@[simp] theorem qe_replace_move : gEq (.str "replace") (.str "move") = some (.bool false) := gEq_wd .replace .move
@[simp] theorem qn_replace_move : gNe (.str "replace") (.str "move") = some (.bool true) := gNe_wd .replace .move
@[simp] theorem qe_replace_copy : gEq (.str "replace") (.str "copy") = some (.bool false) := gEq_wd .replace .copy
@[simp] theorem qn_replace_copy : gNe (.str "replace") (.str "copy") = some (.bool true) := gNe_wd .replace .copy
@[simp] theorem qe_replace_test : gEq (.str "replace") (.str "test") = some (.bool false) := gEq_wd .replace .test
@[simp] theorem qn_replace_test : gNe (.str "replace") (.str "test") = some (.bool true) := gNe_wd .replace .test
@[simp] theorem qe_move_row : gEq (.str "move") (.str "row") = some (.bool false) := gEq_wd .move .row
@[simp] theorem qn_move_row : gNe (.str "move") (.str "row") = some (.bool true) := gNe_wd .move .row
@[simp] theorem qe_move_fields : gEq (.str "move") (.str "fields") = some (.bool false) := gEq_wd .move .fields
@[simp] theorem qn_move_fields : gNe (.str "move") (.str "fields") = some (.bool true) := gNe_wd .move .fields
@[simp] theorem qe_move_number : gEq (.str "move") (.str "number") = some (.bool false) := gEq_wd .move .number
@[simp] theorem qn_move_number : gNe (.str "move") (.str "number") = some (.bool true) := gNe_wd .move .number
@[simp] theorem qe_move_text : gEq (.str "move") (.str "text") = some (.bool false) := gEq_wd .move .text
@[simp] theorem qn_move_text : gNe (.str "move") (.str "text") = some (.bool true) := gNe_wd .move .text
@[simp] theorem qe_move_none : gEq (.str "move") (.str "") = some (.bool false) := gEq_wd .move .none
@[simp] theorem qn_move_none : gNe (.str "move") (.str "") = some (.bool true) := gNe_wd .move .none
@[simp] theorem qe_move_add : gEq (.str "move") (.str "add") = some (.bool false) := gEq_wd .move .add
@[simp] theorem qn_move_add : gNe (.str "move") (.str "add") = some (.bool true) := gNe_wd .move .add
@[simp] theorem qe_move_remove : gEq (.str "move") (.str "remove") = some (.bool false) := gEq_wd .move .remove
@[simp] theorem qn_move_remove : gNe (.str "move") (.str "remove") = some (.bool true) := gNe_wd .move .remove
@[simp] theorem qe_move_replace : gEq (.str "move") (.str "replace") = some (.bool false) := gEq_wd .move .replace
@[simp] theorem qn_move_replace : gNe (.str "move") (.str "replace") = some (.bool true) := gNe_wd .move .replace
@[simp] theorem qe_move_move : gEq (.str "move") (.str "move") = some (.bool true) := gEq_wd .move .move
@[simp] theorem qn_move_move : gNe (.str "move") (.str "move") = some (.bool false) := gNe_wd .move .move
@[simp] theorem qe_move_copy : gEq (.str "move") (.str "copy") = some (.bool false) := gEq_wd .move .copy
@[simp] theorem qn_move_copy : gNe (.str "move") (.str "copy") = some (.bool true) := gNe_wd .move .copy
@[simp] theorem qe_move_test : gEq (.str "move") (.str "test") = some (.bool false) := gEq_wd .move .test
@[simp] theorem qn_move_test : gNe (.str "move") (.str "test") = some (.bool true) := gNe_wd .move .test
@[simp] theorem qe_copy_row : gEq (.str "copy") (.str "row") = some (.bool false) := gEq_wd .copy .row
@[simp] theorem qn_copy_row : gNe (.str "copy") (.str "row") = some (.bool true) := gNe_wd .copy .row
@[simp] theorem qe_copy_fields : gEq (.str "copy") (.str "fields") = some (.bool false) := gEq_wd .copy .fields
@[simp] theorem qn_copy_fields : gNe (.str "copy") (.str "fields") = some (.bool true) := gNe_wd .copy .fields
@[simp] theorem qe_copy_number : gEq (.str "copy") (.str "number") = some (.bool false) := gEq_wd .copy .number
@[simp] theorem qn_copy_number : gNe (.str "copy") (.str "number") = some (.bool true) := gNe_wd .copy .number
@[simp] theorem qe_copy_text : gEq (.str "copy") (.str "text") = some (.bool false) := gEq_wd .copy .text
@[simp] theorem qn_copy_text : gNe (.str "copy") (.str "text") = some (.bool true) := gNe_wd .copy .text
@[simp] theorem qe_copy_none : gEq (.str "copy") (.str "") = some (.bool false) := gEq_wd .copy .none
@[simp] theorem qn_copy_none : gNe (.str "copy") (.str "") = some (.bool true) := gNe_wd .copy .none
@[simp] theorem qe_copy_add : gEq (.str "copy") (.str "add") = some (.bool false) := gEq_wd .copy .add
@[simp] theorem qn_copy_add : gNe (.str "copy") (.str "add") = some (.bool true) := gNe_wd .copy .add
@[simp] theorem qe_copy_remove : gEq (.str "copy") (.str "remove") = some (.bool false) := gEq_wd .copy .remove
@[simp] theorem qn_copy_remove : gNe (.str "copy") (.str "remove") = some (.bool true) := gNe_wd .copy .remove
@[simp] theorem qe_copy_replace : gEq (.str "copy") (.str "replace") = some (.bool false) := gEq_wd .copy .replace
@[simp] theorem qn_copy_replace : gNe (.str "copy") (.str "replace") = some (.bool true) := gNe_wd .copy .replace
@[simp] theorem qe_copy_move : gEq (.str "copy") (.str "move") = some (.bool false) := gEq_wd .copy .move
@[simp] theorem qn_copy_move : gNe (.str "copy") (.str "move") = some (.bool true) := gNe_wd .copy .move
@[simp] theorem qe_copy_copy : gEq (.str "copy") (.str "copy") = some (.bool true) := gEq_wd .copy .copy
@[simp] theorem qn_copy_copy : gNe (.str "copy") (.str "copy") = some (.bool false) := gNe_wd .copy .copy
@[simp] theorem qe_copy_test : gEq (.str "copy") (.str "test") = some (.bool false) := gEq_wd .copy .test
@[simp] theorem qn_copy_test : gNe (.str "copy") (.str "test") = some (.bool true) := gNe_wd .copy .test
@[simp] theorem qe_test_row : gEq (.str "test") (.str "row") = some (.bool false) := gEq_wd .test .row
@[simp] theorem qn_test_row : gNe (.str "test") (.str "row") = some (.bool true) := gNe_wd .test .row
@[simp] theorem qe_test_fields : gEq (.str "test") (.str "fields") = some (.bool false) := gEq_wd .test .fields
@[simp] theorem qn_test_fields : gNe (.str "test") (.str "fields") = some (.bool true) := gNe_wd .test .fields
@[simp] theorem qe_test_number : gEq (.str "test") (.str "number") = some (.bool false) := gEq_wd .test .number
@[simp] theorem qn_test_number : gNe (.str "test") (.str "number") = some (.bool true) := gNe_wd .test .number
@[simp] theorem qe_test_text : gEq (.str "test") (.str "text") = some (.bool false) := gEq_wd .test .text
@[simp] theorem qn_test_text : gNe (.str "test") (.str "text") = some (.bool true) := gNe_wd .test .text
@[simp] theorem qe_test_none : gEq (.str "test") (.str "") = some (.bool false) := gEq_wd .test .none
@[simp] theorem qn_test_none : gNe (.str "test") (.str "") = some (.bool true) := gNe_wd .test .none
@[simp] theorem qe_test_add : gEq (.str "test") (.str "add") = some (.bool false) := gEq_wd .test .add
@[simp] theorem qn_test_add : gNe (.str "test") (.str "add") = some (.bool true) := gNe_wd .test .add
@[simp] theorem qe_test_remove : gEq (.str "test") (.str "remove") = some (.bool false) := gEq_wd .test .remove
@[simp] theorem qn_test_remove : gNe (.str "test") (.str "remove") = some (.bool true) := gNe_wd .test .remove
@[simp] theorem qe_test_replace : gEq (.str "test") (.str "replace") = some (.bool false) := gEq_wd .test .replace
@[simp] theorem qn_test_replace : gNe (.str "test") (.str "replace") = some (.bool true) := gNe_wd .test .replace
@[simp] theorem qe_test_move : gEq (.str "test") (.str "move") = some (.bool false) := gEq_wd .test .move
@[simp] theorem qn_test_move : gNe (.str "test") (.str "move") = some (.bool true) := gNe_wd .test .move
@[simp] theorem qe_test_copy : gEq (.str "test") (.str "copy") = some (.bool false) := gEq_wd .test .copy
@[simp] theorem qn_test_copy : gNe (.str "test") (.str "copy") = some (.bool true) := gNe_wd .test .copy
@[simp] theorem qe_test_test : gEq (.str "test") (.str "test") = some (.bool true) := gEq_wd .test .test
@[simp] theorem qn_test_test : gNe (.str "test") (.str "test") = some (.bool false) := gNe_wd .test .test
end Pl

namespace Pl
open PySem DL Pg
@[simp] theorem gIsTup_tuple {xs} : gIsTup (.tuple xs) = some (.bool true) := nr rfl
@[simp] theorem gIsTup_none : gIsTup .none = some (.bool false) := nr rfl
@[simp] theorem gIsTup_bool {b} : gIsTup (.bool b) = some (.bool false) := nr rfl
@[simp] theorem gIsTup_list {b} : gIsTup (.list b) = some (.bool false) := nr rfl
@[simp] theorem gIsLst_list {b} : gIsLst (.list b) = some (.bool true) := nr rfl
theorem gIn_wd (a : Wd) : gIn (.str a.s) (.tuple [.str "row", .str "fields"]) = some (.bool (decide (a = .row ∨ a = .fields))) := by
  show (if [PyData.str Wd.row.s, PyData.str Wd.fields.s].all isS = true then some (PyData.bool ([PyData.str Wd.row.s, PyData.str Wd.fields.s].any (sameS a.s))) else none) = _
  rw [if_pos (show [PyData.str Wd.row.s, PyData.str Wd.fields.s].all isS = true from rfl)]
  show some (PyData.bool ((Wd.row.s == a.s) || ((Wd.fields.s == a.s) || false))) = _
  rw [Wd.eq, Wd.eq]
  cases a <;> rfl
theorem gNotIn_wd (a : Wd) : gNotIn (.str a.s) (.tuple [.str "row", .str "fields"]) = some (.bool (!decide (a = .row ∨ a = .fields))) := by
  show (if [PyData.str Wd.row.s, PyData.str Wd.fields.s].all isS = true then some (PyData.bool (![PyData.str Wd.row.s, PyData.str Wd.fields.s].any (sameS a.s))) else none) = _
  rw [if_pos (show [PyData.str Wd.row.s, PyData.str Wd.fields.s].all isS = true from rfl)]
  show some (PyData.bool (!((Wd.row.s == a.s) || ((Wd.fields.s == a.s) || false)))) = _
  rw [Wd.eq, Wd.eq]
  cases a <;> rfl
@[simp] theorem in_row : gIn (.str "row") (.tuple [.str "row", .str "fields"]) = some (.bool true) := gIn_wd .row
@[simp] theorem in_fields : gIn (.str "fields") (.tuple [.str "row", .str "fields"]) = some (.bool true) := gIn_wd .fields
@[simp] theorem in_text : gIn (.str "text") (.tuple [.str "row", .str "fields"]) = some (.bool false) := gIn_wd .text
@[simp] theorem in_number : gIn (.str "number") (.tuple [.str "row", .str "fields"]) = some (.bool false) := gIn_wd .number
@[simp] theorem nin_row : gNotIn (.str "row") (.tuple [.str "row", .str "fields"]) = some (.bool false) := gNotIn_wd .row
@[simp] theorem nin_fields : gNotIn (.str "fields") (.tuple [.str "row", .str "fields"]) = some (.bool false) := gNotIn_wd .fields
@[simp] theorem nin_text : gNotIn (.str "text") (.tuple [.str "row", .str "fields"]) = some (.bool true) := gNotIn_wd .text
@[simp] theorem nin_number : gNotIn (.str "number") (.tuple [.str "row", .str "fields"]) = some (.bool true) := gNotIn_wd .number
def kd : J → Wd
  | .row _ => .row
  | .fld _ => .fields
  | _ => .none
theorem F_kind_eq (j : J) : F_kind [enc j] = some (.str (kd j).s) := by
  cases j with
  | non => simp [F_kind, runF, b_kind, startD, enc_non, kd, Wd.s]
  | bl b => simp [F_kind, runF, b_kind, startD, enc_bl, kd, Wd.s]
  | num n p => simp [F_kind, runF, b_kind, startD, enc_num, kd, Wd.s]
  | txt cs => simp [F_kind, runF, b_kind, startD, enc_txt, kd, Wd.s]
  | row xs => simp [F_kind, runF, b_kind, startD, enc_row, kd, Wd.s]
  | fld ms => simp [F_kind, runF, b_kind, startD, enc_fld, kd, Wd.s]

def plcO : Int → Nm → Option Int
  | acc, [] => some acc
  | acc, p :: r => if 48 ≤ p ∧ p ≤ 57 then plcO (acc * 10 + p - 48) r else none
def plc (n : Nm) : Int := if n = [] ∨ (1 < n.length ∧ n.head? = some 48) then -1 else (plcO 0 n).getD (-1)
theorem mul10 (i : Int) : gMul (.int i) (.int 10) = some (.int (i * 10)) := gMul_int (.inr (by decide))
theorem place_loop (nm : PyData) : ∀ (n : Nm) (acc : Int) (x : Option PyData), ∃ x', forL (st1 2) lb_place_1 (n.map PyData.int) [some nm, some (.int acc), x] () = (match plcO acc n with
    | none => some (.rt (.int (-1)) ())
    | some v => some (.nx [some nm, some (.int v), x'] ()))
  | [], acc, x => ⟨x, by simp [plcO]⟩
  | p :: r, acc, x => by
    obtain ⟨x', ih⟩ := place_loop nm r (acc * 10 + p - 48) (some (.int p))
    refine ⟨x', ?_⟩
    rw [List.map_cons, forL_1, plcO]
    by_cases h1 : 48 ≤ p
    · by_cases h2 : p ≤ 57
      · rw [if_pos ⟨h1, h2⟩, ← ih]
        simp [lb_place_1, h1, h2, mul10]
      · rw [if_neg (fun z => h2 z.2)]
        simp [lb_place_1, h1, h2]
    · rw [if_neg (fun z => h1 z.1)]
      simp [lb_place_1, h1]
theorem runF_rt {N : Nat} {f : FS Unit} {ds : List PyData} {d : PyData} (h : f (startD N ds) () = some (.rt d ())) : runF N f ds = some d := by
  unfold runF
  rw [h]
theorem F_place_eq (n : Nm) : F_place [nmD n] = some (.int (plc n)) := by
  refine runF_rt ?_
  show b_place [some (nmD n), none, none] () = _
  unfold b_place plc
  by_cases c : n = [] ∨ (1 < n.length ∧ n.head? = some 48)
  · rw [if_pos c]
    refine sSeq_rt ?_
    rcases c with rfl | ⟨c1, c2⟩
    · simp [nmD]
    · match n, c1, c2 with
      | p :: q :: r, c1, c2 =>
        have c2' : p = 48 := by simpa using c2
        have c3 : (1 : Int) < (r.length : Int) + 1 + 1 := by omega
        simp [nmD, c2', c3]
  · rw [if_neg c]
    have e1 : n ≠ [] := fun z => c (.inl z)
    have t1 : sIf (fOrT (fNotT (fTru (fVar 0))) (fAndT (fTst (fBin (gCmp pGt) (fUn gLen (fVar 0)) (fC (.int 1)))) (fTst (fBin gEq (fBin gIx (fVar 0) (fC (.int 0))) (fC (.int 48)))))) (sRet (fUn gNeg (fC (.int 1)))) sNil [some (nmD n), none, none] () = some (.nx [some (nmD n), none, none] ()) := by
      match n, e1 with
      | [p], _ => simp [nmD]
      | p :: q :: r, _ =>
        have c2 : p ≠ 48 := fun z => c (.inr ⟨by simp, by simp [z]⟩)
        have c3 : (1 : Int) < (r.length : Int) + 1 + 1 := by omega
        simp [nmD, c2, c3]
    rw [sSeq_nx t1]
    obtain ⟨x', h⟩ := place_loop (nmD n) n 0 none
    have t2 : sFor itemsT (st1 2) (fVar 0) lb_place_1 [some (nmD n), some (.int 0), none] () = _ := (show _ = forL (st1 2) lb_place_1 (n.map PyData.int) [some (nmD n), some (.int 0), none] () from rfl).trans h
    rw [sSeq_nx (show sAsg 1 (fC (.int 0)) [some (nmD n), none, none] () = some (.nx [some (nmD n), some (.int 0), none] ()) from rfl)]
    cases hp : plcO 0 n with
    | none =>
      rw [hp] at t2
      exact sSeq_rt t2
    | some v =>
      rw [hp] at t2
      exact (sSeq_nx t2).trans rfl

/-! ### loops in general -/
section
variable {S α β : Type} {st : PyData → Ds → Option Ds} {b : FS S} {g : α → PyData}
/-- a loop that looks for something: q tells at which item it leaves the def, and with what -/
theorem forL_find (q : α → Option PyData) (P : Ds → S → Prop) : ∀ (l : List α) (D : Ds) (s : S), (∀ x ∈ l, ∀ D s, P D s → ∃ D1, st (g x) D = some D1 ∧ (match q x with
    | none => ∃ D' s', b D1 s = some (.nx D' s') ∧ P D' s'
    | some d => ∃ s', b D1 s = some (.rt d s'))) → P D s →
    match l.findSome? q with
    | none => ∃ D' s', forL st b (l.map g) D s = some (.nx D' s') ∧ P D' s'
    | some d => ∃ s', forL st b (l.map g) D s = some (.rt d s')
  | [], D, s, _, hP => ⟨D, s, rfl, hP⟩
  | x :: l, D, s, hb, hP => by
    obtain ⟨D1, h1, h2⟩ := hb x List.mem_cons_self D s hP
    rw [List.findSome?_cons]
    cases hq : q x with
    | some d =>
      rw [hq] at h2
      obtain ⟨s', h2⟩ := h2
      exact ⟨s', by rw [List.map_cons, forL_cons, h1]; show (match b D1 s with | some (.nx D' s') => _ | some (.ct D' s') => _ | some (.bk D' s') => _ | r => r) = _; rw [h2]⟩
    | none =>
      rw [hq] at h2
      obtain ⟨D', s', h2, hP'⟩ := h2
      have ih := forL_find q P l D' s' (fun y hy => hb y (List.mem_cons_of_mem _ hy)) hP'
      have e : forL st b ((x :: l).map g) D s = forL st b (l.map g) D' s' := by
        rw [List.map_cons, forL_cons, h1]
        show (match b D1 s with | some (.nx D' s') => _ | some (.ct D' s') => _ | some (.bk D' s') => _ | r => r) = _
        rw [h2]
      rw [e]
      exact ih
/-- a loop that gathers -/
theorem forL_fold (f : β → α → β) (P : β → Ds → S → Prop) : ∀ (l : List α) (a : β) (D : Ds) (s : S), (∀ x ∈ l, ∀ a D s, P a D s → ∃ D1, st (g x) D = some D1 ∧ ∃ D' s', b D1 s = some (.nx D' s') ∧ P (f a x) D' s') → P a D s →
    ∃ D' s', forL st b (l.map g) D s = some (.nx D' s') ∧ P (l.foldl f a) D' s'
  | [], a, D, s, _, hP => ⟨D, s, rfl, hP⟩
  | x :: l, a, D, s, hb, hP => by
    obtain ⟨D1, h1, D', s', h2, hP'⟩ := hb x List.mem_cons_self a D s hP
    obtain ⟨D2, s2, h3, hP2⟩ := forL_fold f P l (f a x) D' s' (fun y hy => hb y (List.mem_cons_of_mem _ hy)) hP'
    refine ⟨D2, s2, ?_, hP2⟩
    rw [List.map_cons, forL_cons, h1]
    show (match b D1 s with | some (.nx D' s') => _ | some (.ct D' s') => _ | some (.bk D' s') => _ | r => r) = _
    rw [h2]
    exact h3
/-- a comprehension that keeps all: each item's element -/
theorem compL_map {i : Nat} {e : FE S} (h : α → PyData) (D : Ds) (s : S) : ∀ (l : List α), (∀ x ∈ l, e (D.set i (some (g x))) s = some (h x)) → compL i fYes e (l.map g) D s = some (l.map h)
  | [], _ => rfl
  | x :: l, he => by
    rw [List.map_cons, compL_cons]
    simp [he x List.mem_cons_self, compL_map h D s l fun y hy => he y (List.mem_cons_of_mem _ hy)]
/-- .. that keeps some -/
theorem compL_filter {i : Nat} {t : FT S} {e : FE S} (p : α → Bool) (h : α → PyData) (D : Ds) (s : S) : ∀ (l : List α), (∀ x ∈ l, t (D.set i (some (g x))) s = some (p x)) → (∀ x ∈ l, e (D.set i (some (g x))) s = some (h x)) → compL i t e (l.map g) D s = some ((l.filter p).map h)
  | [], _, _ => rfl
  | x :: l, ht, he => by
    rw [List.map_cons, compL_cons, ht x List.mem_cons_self]
    have ih := compL_filter p h D s l (fun y hy => ht y (List.mem_cons_of_mem _ hy)) fun y hy => he y (List.mem_cons_of_mem _ hy)
    cases hp : p x with
    | true => simp [hp, he x List.mem_cons_self, ih]
    | false => simp [hp, ih]
end
theorem rangeL_eq (n : Nat) : rangeL 0 n = (List.range n).map fun (k : Nat) => PyData.int (k : Int) := by
  unfold rangeL
  simp
theorem range1_nat (n : Nat) (h : n ≤ 16777216) : range1 (.int (n : Int)) = some ((List.range n).map fun (k : Nat) => PyData.int (k : Int)) := by
  show (if okR (n : Int) then some (rangeL 0 (n : Int).toNat) else none) = _
  rw [if_pos (by unfold okR; omega), Int.toNat_natCast, rangeL_eq]
end Pl

namespace Pl
open PySem DL Pg
@[simp] theorem encP_0 (m : Nm × J) : gIx (encP m) (.int 0) = some (nmD m.1) := by unfold encP; simp
@[simp] theorem encP_1 (m : Nm × J) : gIx (encP m) (.int 1) = some (enc m.2) := by unfold encP; simp
/-- the first place of a name -/
def fiN (n : Nm) : List (Nm × J) → Option Nat
  | [] => none
  | m :: r => if m.1 = n then some 0 else (fiN n r).map (· + 1)
theorem fiN_lt {n : Nm} : ∀ {ms : List (Nm × J)} {k : Nat}, fiN n ms = some k → ∃ m, ms[k]? = some m ∧ m.1 = n
  | m :: r, k, h => by
    unfold fiN at h
    split at h
    · rename_i e
      have : 0 = k := Option.some.inj h
      subst this
      exact ⟨m, rfl, e⟩
    · cases hr : fiN n r with
      | none => rw [hr] at h; cases h
      | some j =>
        rw [hr] at h
        have : j + 1 = k := Option.some.inj h
        subst this
        obtain ⟨m', h1, h2⟩ := fiN_lt hr
        exact ⟨m', h1, h2⟩
theorem fiN_none {n : Nm} : ∀ {ms : List (Nm × J)}, fiN n ms = none → ∀ m ∈ ms, m.1 ≠ n
  | [], _, m, hm => by cases hm
  | m :: r, h, m', hm => by
    unfold fiN at h
    split at h
    · cases h
    · rename_i e
      have hr : fiN n r = none := by
        cases hr : fiN n r with
        | none => rfl
        | some j => rw [hr] at h; cases h
      rcases List.mem_cons.mp hm with rfl | hm
      · exact e
      · exact fiN_none hr m' hm
def ixO : J → Nm → Option Nat
  | .row xs, n => if 0 ≤ plc n ∧ plc n < xs.length then some (plc n).toNat else none
  | .fld ms, n => fiN n ms
  | _, _ => none
def toI : Option Nat → Int
  | some k => k
  | none => -1
theorem plcO_nn : ∀ {n : Nm} {acc v : Int}, 0 ≤ acc → plcO acc n = some v → 0 ≤ v
  | [], acc, v, h, e => by
    have : acc = v := Option.some.inj e
    omega
  | p :: r, acc, v, h, e => by
    unfold plcO at e
    split at e
    · rename_i c
      exact plcO_nn (by omega) e
    · cases e
theorem plc_ge (n : Nm) : -1 ≤ plc n := by
  unfold plc
  split
  · exact Int.le_refl _
  · cases h : plcO 0 n with
    | none => exact Int.le_refl _
    | some v =>
      have := plcO_nn (Int.le_refl 0) h
      show -1 ≤ v
      omega
theorem find_range (n : Nm) : ∀ ms : List (Nm × J), (List.range ms.length).findSome? (fun (k : Nat) => if (ms[k]?).map (·.1) = some n then some (PyData.int (k : Int)) else none) = (fiN n ms).map fun (k : Nat) => PyData.int (k : Int)
  | [] => rfl
  | m :: r => by
    rw [List.length_cons, List.range_succ_eq_map, List.findSome?_cons]
    unfold fiN
    by_cases h : m.1 = n
    · simp [h]
    · have ih := find_range n r
      simp only [List.getElem?_cons_zero, Option.map_some, Option.some.injEq, h, if_false]
      rw [List.findSome?_map]
      have e : (List.range r.length).findSome? ((fun (k : Nat) => if ((m :: r)[k]?).map (·.1) = some n then some (PyData.int (k : Int)) else none) ∘ Nat.succ) = ((List.range r.length).findSome? (fun (k : Nat) => if (r[k]?).map (·.1) = some n then some k else none)).map fun (k : Nat) => PyData.int ((k + 1 : Nat) : Int) := by
        rw [List.map_findSome?]
        congr 1
        funext k
        simp only [Function.comp, List.getElem?_cons_succ]
        split <;> rfl
      have e2 : (List.range r.length).findSome? (fun (k : Nat) => if (r[k]?).map (·.1) = some n then some (PyData.int (k : Int)) else none) = ((List.range r.length).findSome? (fun (k : Nat) => if (r[k]?).map (·.1) = some n then some k else none)).map fun (k : Nat) => PyData.int (k : Int) := by
        rw [List.map_findSome?]
        congr 1
        funext k
        simp only [Function.comp]
        split <;> rfl
      rw [e2] at ih
      rw [e]
      cases hq : (List.range r.length).findSome? (fun (k : Nat) => if (r[k]?).map (·.1) = some n then some k else none) with
      | none =>
        rw [hq] at ih
        cases hf : fiN n r with
        | none => rfl
        | some j => rw [hf] at ih; cases ih
      | some j =>
        rw [hq] at ih
        cases hf : fiN n r with
        | none => rw [hf] at ih; cases ih
        | some j' =>
          rw [hf] at ih
          have ej : (j : Int) = (j' : Int) := by
            have := Option.some.inj ih
            simpa using this
          have : j = j' := by omega
          subst this
          rfl
theorem F_index_row (xs : List J) (n : Nm) : F_index [enc (.row xs), nmD n] = some (.int (toI (ixO (.row xs) n))) := by
  refine runF_rt ?_
  show b_index F_place [some (enc (.row xs)), some (nmD n), none, none] () = _
  unfold b_index
  have hp := F_place_eq n
  have hg := plc_ge n
  unfold ixO
  by_cases h : plc n < xs.length
  · by_cases h0 : 0 ≤ plc n
    · have hm : max (plc n) 0 = plc n := by omega
      simp [enc_row, toI, hp, h, h0, hm]
    · have e : plc n = -1 := by omega
      have h' : (-1 : Int) < xs.length := by omega
      simp [enc_row, toI, hp, h', h0, e]
  · simp [enc_row, toI, hp, h]
theorem index_loop (ms : List (Nm × J)) (n : Nm) : match (fiN n ms).map fun (k : Nat) => PyData.int (k : Int) with
    | none => ∃ o s', forL (st1 3) (lb_index_1 F_place) ((List.range ms.length).map fun (k : Nat) => PyData.int (k : Int)) [some (enc (.fld ms)), some (nmD n), some (.str "fields"), none] () = some (.nx [some (enc (.fld ms)), some (nmD n), some (.str "fields"), o] s')
    | some d => ∃ s', forL (st1 3) (lb_index_1 F_place) ((List.range ms.length).map fun (k : Nat) => PyData.int (k : Int)) [some (enc (.fld ms)), some (nmD n), some (.str "fields"), none] () = some (.rt d s') := by
  have hloop := forL_find (S := Unit) (st := st1 3) (b := lb_index_1 F_place) (g := fun (k : Nat) => PyData.int (k : Int)) (fun (k : Nat) => if (ms[k]?).map (·.1) = some n then some (PyData.int (k : Int)) else none)
      (fun D _ => ∃ o, D = [some (enc (.fld ms)), some (nmD n), some (.str "fields"), o]) (List.range ms.length) [some (enc (.fld ms)), some (nmD n), some (.str "fields"), none] () (by
        rintro k hk D s ⟨o, rfl⟩
        have hk' : k < ms.length := List.mem_range.mp hk
        refine ⟨_, rfl, ?_⟩
        rw [List.getElem?_eq_getElem hk', Option.map_some]
        by_cases h : ms[k].1 = n
        · simp [h, lb_index_1, enc_fld, atI_nat, hk']
        · simp [h, lb_index_1, enc_fld, atI_nat, hk']) ⟨none, rfl⟩
  rw [find_range] at hloop
  cases hf : fiN n ms with
  | none =>
    rw [hf] at hloop
    obtain ⟨D', s', h1, o, rfl⟩ := hloop
    exact ⟨o, s', h1⟩
  | some k =>
    rw [hf] at hloop
    exact hloop
theorem F_index_fld (ms : List (Nm × J)) (n : Nm) (hs : size (.fld ms) ≤ 1000000) : F_index [enc (.fld ms), nmD n] = some (.int (toI (ixO (.fld ms) n))) := by
  refine runF_rt ?_
  show b_index F_place [some (enc (.fld ms)), some (nmD n), none, none] () = _
  unfold b_index
  have hl := len_fld ms
  have hloop := index_loop ms n
  have hr := range1_nat ms.length (by omega)
  unfold ixO
  cases hf : fiN n ms with
  | none =>
    rw [hf] at hloop
    obtain ⟨o, s', h1⟩ := hloop
    simp only [enc_fld] at h1
    simp [enc_fld, toI, hf, forO_R hr, h1]
  | some k =>
    rw [hf] at hloop
    obtain ⟨s', h1⟩ := hloop
    simp only [enc_fld] at h1
    simp [enc_fld, toI, hf, forO_R hr, h1]
theorem F_index_eq (j : J) (n : Nm) (hs : size j ≤ 1000000) : F_index [enc j, nmD n] = some (.int (toI (ixO j n))) := by
  cases j with
  | non =>
    refine runF_rt ?_
    show b_index F_place [some (enc .non), some (nmD n), none, none] () = _
    simp [b_index, enc_non, ixO, toI]
  | bl b =>
    refine runF_rt ?_
    show b_index F_place [some (enc (.bl b)), some (nmD n), none, none] () = _
    simp [b_index, enc_bl, ixO, toI]
  | num a b =>
    refine runF_rt ?_
    show b_index F_place [some (enc (.num a b)), some (nmD n), none, none] () = _
    simp [b_index, enc_num, ixO, toI]
  | txt cs =>
    refine runF_rt ?_
    show b_index F_place [some (enc (.txt cs)), some (nmD n), none, none] () = _
    simp [b_index, enc_txt, ixO, toI]
  | row xs => exact F_index_row xs n
  | fld ms => exact F_index_fld ms n hs
end Pl

namespace Pl
open PySem DL Pg
def child : J → Nm → Option J
  | .row xs, n => (ixO (.row xs) n).bind fun k => xs[k]?
  | .fld ms, n => (fiN n ms).bind fun k => (ms[k]?).map (·.2)
  | _, _ => none
def gt : J → List Nm → Option J
  | j, [] => some j
  | j, n :: r => (child j n).bind fun c => gt c r
theorem child_row (xs : List J) (n : Nm) : child (.row xs) n = (ixO (.row xs) n).bind fun k => xs[k]? := rfl
theorem child_fld (ms : List (Nm × J)) (n : Nm) : child (.fld ms) n = (fiN n ms).bind fun k => (ms[k]?).map (·.2) := rfl
theorem ixO_row (xs : List J) (n : Nm) : ixO (.row xs) n = if 0 ≤ plc n ∧ plc n < xs.length then some (plc n).toNat else none := rfl
theorem ixO_row_lt {xs : List J} {n : Nm} {k : Nat} (h : ixO (.row xs) n = some k) : k < xs.length := by
  rw [ixO_row] at h
  split at h
  · rename_i c
    have := Option.some.inj h
    omega
  · cases h
theorem ixO_fld_lt {ms : List (Nm × J)} {n : Nm} {k : Nat} (h : ixO (.fld ms) n = some k) : k < ms.length := by
  obtain ⟨m, h1, _⟩ := fiN_lt (show fiN n ms = some k from h)
  exact (List.getElem?_eq_some_iff.mp h1).1
theorem child_size {j c : J} {n : Nm} (h : child j n = some c) : size c < size j := by
  cases j with
  | row xs =>
    rw [child_row] at h
    cases hi : ixO (.row xs) n with
    | none => rw [hi] at h; cases h
    | some k =>
      rw [hi] at h
      exact size_mem (List.mem_of_getElem? h)
  | fld ms =>
    rw [child_fld] at h
    cases hi : fiN n ms with
    | none => rw [hi] at h; cases h
    | some k =>
      rw [hi] at h
      obtain ⟨m, hm, e⟩ := Option.map_eq_some_iff.mp h
      rw [← e]
      exact size_memf (List.mem_of_getElem? hm)
  | _ => cases h
theorem child_depth {j c : J} {n : Nm} (h : child j n = some c) : depth c < depth j := by
  cases j with
  | row xs =>
    rw [child_row] at h
    cases hi : ixO (.row xs) n with
    | none => rw [hi] at h; cases h
    | some k =>
      rw [hi] at h
      exact depth_mem (List.mem_of_getElem? h)
  | fld ms =>
    rw [child_fld] at h
    cases hi : fiN n ms with
    | none => rw [hi] at h; cases h
    | some k =>
      rw [hi] at h
      obtain ⟨m, hm, e⟩ := Option.map_eq_some_iff.mp h
      rw [← e]
      exact depth_memf (List.mem_of_getElem? hm)
  | _ => cases h
theorem child_clean {j c : J} {n : Nm} (hj : Clean j) (h : child j n = some c) : Clean c := by
  cases hj with
  | row hx =>
    rename_i xs
    rw [child_row] at h
    cases hi : ixO (.row xs) n with
    | none => rw [hi] at h; cases h
    | some k =>
      rw [hi] at h
      exact hx _ (List.mem_of_getElem? h)
  | fld _ hx =>
    rename_i ms _
    rw [child_fld] at h
    cases hi : fiN n ms with
    | none => rw [hi] at h; cases h
    | some k =>
      rw [hi] at h
      obtain ⟨m, hm, e⟩ := Option.map_eq_some_iff.mp h
      rw [← e]
      exact hx _ (List.mem_of_getElem? hm)
  | _ => cases h
theorem child_ix {j : J} {n : Nm} : child j n = none ↔ ixO j n = none := by
  cases j with
  | row xs =>
    rw [child_row]
    cases hi : ixO (.row xs) n with
    | none => simp
    | some k => simp [ixO_row_lt hi]
  | fld ms =>
    rw [child_fld]
    cases hi : ixO (.fld ms) n with
    | none =>
      have hi' : fiN n ms = none := hi
      simp [hi']
    | some k =>
      have hi' : fiN n ms = some k := hi
      simp [hi', ixO_fld_lt hi]
  | _ => simp [child, ixO]
/-- the law's thing[1][at] or thing[1][at][1] -/
theorem get_step (j : J) (n : Nm) (N : PyData) (x3 : Option PyData) (hs : size j ≤ 1000000) : match child j n with
    | some c => ∃ k : Nat, lb_get_1 F_index [some (enc j), some N, some (nmD n), x3] () = some (.nx [some (enc c), some N, some (nmD n), some (.int k)] ())
    | none => lb_get_1 F_index [some (enc j), some N, some (nmD n), x3] () = some (.rt (.list []) ()) := by
  have hi := F_index_eq j n hs
  cases hc : child j n with
  | none =>
    rw [child_ix.mp hc] at hi
    simp [lb_get_1, hi, toI]
  | some c =>
    cases hx : ixO j n with
    | none => rw [child_ix.mpr hx] at hc; cases hc
    | some k =>
      rw [hx] at hi
      refine ⟨k, ?_⟩
      have h0 : ¬ ((k : Int) < 0) := by omega
      cases j with
      | row xs =>
        have hk := ixO_row_lt hx
        have e : xs[k] = c := by
          rw [child_row] at hc
          rw [hx] at hc
          have hc' : xs[k]? = some c := hc
          rw [List.getElem?_eq_getElem hk] at hc'
          exact Option.some.inj hc'
        rw [enc_row] at hi
        simp [lb_get_1, enc_row, hi, toI, h0, atI_nat, hk, e]
      | fld ms =>
        have hk := ixO_fld_lt hx
        have e : ms[k].2 = c := by
          rw [child_fld] at hc
          rw [show fiN n ms = some k from hx] at hc
          have hc' : (ms[k]?).map (·.2) = some c := hc
          rw [List.getElem?_eq_getElem hk] at hc'
          exact Option.some.inj hc'
        rw [enc_fld] at hi
        simp [lb_get_1, enc_fld, hi, toI, h0, atI_nat, hk, e]
      | _ => cases hc
theorem get_loop (N : PyData) : ∀ (ns : List Nm) (j : J) (x2 x3 : Option PyData), size j ≤ 1000000 → match gt j ns with
    | some c => ∃ x2' x3', forL (st1 2) (lb_get_1 F_index) (ns.map nmD) [some (enc j), some N, x2, x3] () = some (.nx [some (enc c), some N, x2', x3'] ())
    | none => forL (st1 2) (lb_get_1 F_index) (ns.map nmD) [some (enc j), some N, x2, x3] () = some (.rt (.list []) ())
  | [], j, x2, x3, hs => ⟨x2, x3, rfl⟩
  | n :: r, j, x2, x3, hs => by
    have h := get_step j n N x3 hs
    unfold gt
    cases hc : child j n with
    | none =>
      rw [hc] at h
      rw [List.map_cons]
      simp only [Option.bind_none]
      rw [forL_1]
      simp [h]
    | some c =>
      rw [hc] at h
      obtain ⟨k, h⟩ := h
      have hz := child_size hc
      have ih := get_loop N r c (some (nmD n)) (some (.int k)) (by omega)
      simp only [Option.bind_some]
      cases hg : gt c r with
      | none =>
        rw [hg] at ih
        rw [List.map_cons]
        simp only
        rw [forL_1]
        simp [h, ih]
      | some d =>
        rw [hg] at ih
        obtain ⟨a, b, ih⟩ := ih
        refine ⟨a, b, ?_⟩
        rw [List.map_cons]
        rw [forL_1]
        simp [h, ih]
def pathD (ns : List Nm) : PyData := .tuple (ns.map nmD)
def optD (o : Option J) : PyData := .list (o.toList.map enc)
theorem F_get_eq (j : J) (ns : List Nm) (hs : size j ≤ 1000000) : F_get [enc j, pathD ns] = some (optD (gt j ns)) := by
  refine runF_rt ?_
  show b_get F_index [some (enc j), some (pathD ns), none, none] () = _
  have h := get_loop (pathD ns) ns j none none hs
  have hp : pathD ns = .tuple (ns.map nmD) := rfl
  cases hg : gt j ns with
  | none =>
    rw [hg] at h
    simp only [hp] at h
    simp [b_get, hp, h, optD]
  | some c =>
    rw [hg] at h
    obtain ⟨a, b, h⟩ := h
    simp only [hp] at h
    simp [b_get, hp, h, optD]
end Pl

namespace Pl
open PySem DL Pg
theorem cut_to (xs : List PyData) (k : Nat) : cutD xs none (some (k : Int)) = xs.take k := by
  unfold cutD
  rw [HT.sIx_none, HT.sIx_nat, List.drop_zero, Nat.sub_zero]
  by_cases h : k ≤ xs.length
  · rw [Nat.min_eq_left h]
  · rw [Nat.min_eq_right (by omega), List.take_length, List.take_of_length_le (by omega)]
theorem cut_from (xs : List PyData) (k : Nat) : cutD xs (some (k : Int)) none = xs.drop k := by
  unfold cutD
  rw [HT.sIx_none, HT.sIx_nat]
  by_cases h : k ≤ xs.length
  · rw [Nat.min_eq_left h, List.take_of_length_le (by rw [List.length_drop]; exact Nat.le_refl _)]
  · rw [Nat.min_eq_right (by omega), Nat.sub_self, List.take_zero, List.drop_eq_nil_of_le (by omega)]
theorem cut_from1 (xs : List PyData) (k : Nat) : cutD xs (some ((k : Int) + 1)) none = xs.drop (k + 1) := by
  have := cut_from xs (k + 1)
  simpa using this
theorem gAdd_t {xs ys : List PyData} (h : xs.length + ys.length ≤ 16777216) : gAdd (.tuple xs) (.tuple ys) = some (.tuple (xs ++ ys)) := gAdd_tup (small h)
/-- the value with another one in the place of the part that is there -/
def wt : J → Nm → J → J
  | .row xs, n, v => match ixO (.row xs) n with
    | some k => .row (xs.set k v)
    | none => .row xs
  | .fld ms, n, v => match fiN n ms with
    | some k => .fld (ms.set k (n, v))
    | none => .fld ms
  | j, _, _ => j
theorem wt_row {xs : List J} {n : Nm} {v : J} {k : Nat} (h : ixO (.row xs) n = some k) : wt (.row xs) n v = .row (xs.set k v) := by
  show (match ixO (.row xs) n with | some k => J.row (xs.set k v) | none => .row xs) = _
  rw [h]
theorem wt_fld {ms : List (Nm × J)} {n : Nm} {v : J} {k : Nat} (h : fiN n ms = some k) : wt (.fld ms) n v = .fld (ms.set k (n, v)) := by
  show (match fiN n ms with | some k => J.fld (ms.set k (n, v)) | none => .fld ms) = _
  rw [h]
theorem set_cut {α : Type} {xs : List α} {k : Nat} {v : α} (h : k < xs.length) : xs.take k ++ [v] ++ xs.drop (k + 1) = xs.set k v := by
  rw [List.set_eq_take_append_cons_drop, if_pos h, List.append_assoc]
  rfl
theorem F_with_eq (j : J) (n : Nm) (v : J) (hs : size j ≤ 1000000) (hc : child j n ≠ none) : F_with [enc j, nmD n, enc v] = some (enc (wt j n v)) := by
  refine runF_rt ?_
  show b_with F_index [some (enc j), some (nmD n), some (enc v), none, none] () = _
  have hi := F_index_eq j n hs
  cases j with
  | row xs =>
    cases hx : ixO (.row xs) n with
    | none => exact absurd (child_ix.mpr hx) hc
    | some k =>
      have hk := ixO_row_lt hx
      have hl := len_row xs
      rw [hx] at hi
      rw [wt_row hx, enc_row, enc_row]
      rw [enc_row] at hi
      have e1 : gAdd (.tuple ((xs.map enc).take k)) (.tuple [enc v]) = some (.tuple ((xs.map enc).take k ++ [enc v])) := gAdd_t (by rw [List.length_take, List.length_map]; simp; omega)
      have e2 : gAdd (.tuple ((xs.map enc).take k ++ [enc v])) (.tuple ((xs.map enc).drop (k + 1))) = some (.tuple ((xs.set k v).map enc)) := by
        rw [gAdd_t (by rw [List.length_append, List.length_take, List.length_drop, List.length_map]; simp; omega), set_cut (by rw [List.length_map]; exact hk), List.map_set]
      unfold b_with
      simp only [sSeq_ap, sAsg_ap, sRet_ap, fCall_ap, fCons_ap, fNil_ap, fVar_ap, fIfE_ap, fTst_ap, fBin_ap, fC_ap, fTup_ap, fSl_ap, oNone_ap, oSome_ap, List.getElem?_cons_zero, List.getElem?_cons_succ, Option.getD_some, consO_s, callO_2, hi, toI, asgO_s, List.set_cons_zero, List.set_cons_succ, nxt_nx, bin2_s, gIx_tuple, atI_0, atI_1, qe_row_row, Option.bind_some, asB_ap, ifO_t, partO_s, slO_s, cut_to, gAdd_int, cut_from1, tupO_1, tupO_2, e1, e2, retO_s]
  | fld ms =>
    cases hx : ixO (.fld ms) n with
    | none => exact absurd (child_ix.mpr hx) hc
    | some k =>
      have hk := ixO_fld_lt hx
      have hl := len_fld ms
      rw [hx] at hi
      rw [wt_fld (show fiN n ms = some k from hx), enc_fld, enc_fld]
      rw [enc_fld] at hi
      have e1 : gAdd (.tuple ((ms.map encP).take k)) (.tuple [.tuple [nmD n, enc v]]) = some (.tuple ((ms.map encP).take k ++ [.tuple [nmD n, enc v]])) := gAdd_t (by rw [List.length_take, List.length_map]; simp; omega)
      have e2 : gAdd (.tuple ((ms.map encP).take k ++ [.tuple [nmD n, enc v]])) (.tuple ((ms.map encP).drop (k + 1))) = some (.tuple ((ms.set k (n, v)).map encP)) := by
        rw [gAdd_t (by rw [List.length_append, List.length_take, List.length_drop, List.length_map]; simp; omega), set_cut (by rw [List.length_map]; exact hk), List.map_set]
        rfl
      unfold b_with
      simp only [sSeq_ap, sAsg_ap, sRet_ap, fCall_ap, fCons_ap, fNil_ap, fVar_ap, fIfE_ap, fTst_ap, fBin_ap, fC_ap, fTup_ap, fSl_ap, oNone_ap, oSome_ap, List.getElem?_cons_zero, List.getElem?_cons_succ, Option.getD_some, consO_s, callO_2, hi, toI, asgO_s, List.set_cons_zero, List.set_cons_succ, nxt_nx, bin2_s, gIx_tuple, atI_0, atI_1, qe_fields_row, Option.bind_some, asB_ap, ifO_f, partO_s, slO_s, cut_to, gAdd_int, cut_from1, tupO_1, tupO_2, e1, e2, retO_s]
  | _ => exact absurd rfl hc
end Pl

namespace Pl
open PySem DL Pg
@[simp] theorem cut_to_1 (xs : List PyData) : cutD xs none (some 1) = xs.take 1 := cut_to xs 1
@[simp] theorem cut_from_1 (xs : List PyData) : cutD xs (some 1) none = xs.drop 1 := cut_from xs 1
@[simp] theorem optD_some (j : J) : optD (some j) = .list [enc j] := nr rfl
@[simp] theorem optD_none : optD none = .list [] := nr rfl
def hd : J → Wd
  | .row _ => .row
  | .fld _ => .fields
  | .num _ _ => .number
  | .txt _ => .text
  | _ => .none
theorem get1 (j : J) (n : Nm) (hs : size j ≤ 1000000) : F_get [enc j, .tuple [nmD n]] = some (optD (child j n)) := by
  have h := F_get_eq j [n] hs
  have e : gt j [n] = child j n := by
    unfold gt
    cases child j n <;> rfl
  rw [e] at h
  exact h
def putF (n : Nm) (v : J) (ms : List (Nm × J)) : List (Nm × J) := match fiN n ms with
  | some k => ms.set k (n, v)
  | none => ms ++ [(n, v)]
def insAt (k : Int) (v : J) (xs : List J) : Option (List J) := if 0 ≤ k ∧ k ≤ xs.length then some (xs.take k.toNat ++ [v] ++ xs.drop k.toNat) else none
def rowAt (n : Nm) (xs : List J) : Int := if n = [45] then (xs.length : Int) else plc n
def insR (n : Nm) (v : J) (xs : List J) : Option (List J) := insAt (rowAt n xs) v xs
def grow1 : J → Nm → J → Option J
  | .fld ms, n, v => some (.fld (putF n v ms))
  | .row xs, n, v => (insR n v xs).map J.row
  | _, _, _ => none
def grow : J → List Nm → J → Option J
  | _, [], v => some v
  | j, [n], v => grow1 j n v
  | j, n :: m :: r, v => (child j n).bind fun c => (grow c (m :: r) v).map fun c' => wt j n c'
/-- the head of the def: the kind is looked at -/
theorem grow_head (j : J) (N v : PyData) (x4 x5 : Option PyData) : sIf (fTru (fUn gIsTup (fVar 0))) (sAsg 3 (fBin gIx (fVar 0) (fC (.int 0)))) sNil [some (enc j), some N, some v, some (.str ""), x4, x5] () = some (.nx [some (enc j), some N, some v, some (.str (hd j).s), x4, x5] ()) := by
  cases j with
  | non => simp [enc_non, hd, Wd.s]
  | bl b => simp [enc_bl, hd, Wd.s]
  | num a b => simp [enc_num, hd, Wd.s]
  | txt cs => simp [enc_txt, hd, Wd.s]
  | row xs => simp [enc_row, hd, Wd.s]
  | fld ms => simp [enc_fld, hd, Wd.s]
theorem grow_nil (n : Nat) (j v : J) : F_grown (n + 1) [enc j, pathD [], enc v] = some (optD (some v)) := by
  refine runF_rt ?_
  show b_grown F_index (F_grown n) F_get F_with F_place [some (enc j), some (.tuple []), some (enc v), none, none, none] () = _
  simp [b_grown]
theorem grow_many (f : Nat) (j v : J) (n m : Nm) (r : List Nm) (hs : size j ≤ 1000000) (ih : ∀ c, child j n = some c → F_grown f [enc c, pathD (m :: r), enc v] = some (optD (grow c (m :: r) v))) :
    F_grown (f + 1) [enc j, pathD (n :: m :: r), enc v] = some (optD (grow j (n :: m :: r) v)) := by
  refine runF_rt ?_
  show b_grown F_index (F_grown f) F_get F_with F_place [some (enc j), some (.tuple (nmD n :: nmD m :: r.map nmD)), some (enc v), none, none, none] () = _
  have hi := F_index_eq j n hs
  have hg := get1 j n hs
  have hh := grow_head j (.tuple (nmD n :: nmD m :: r.map nmD)) (enc v) none none
  have hl : (1 : Int) < (r.length : Int) + 1 + 1 := by omega
  unfold b_grown
  rw [sSeq_nx (D' := [some (enc j), some (.tuple (nmD n :: nmD m :: r.map nmD)), some (enc v), none, none, none]) (s' := ()) (by simp)]
  rw [sSeq_nx (D' := [some (enc j), some (.tuple (nmD n :: nmD m :: r.map nmD)), some (enc v), some (.str ""), none, none]) (s' := ()) (by simp)]
  rw [sSeq_nx hh]
  unfold grow
  cases hc : child j n with
  | none =>
    rw [child_ix.mp hc] at hi
    simp [hi, toI, hl]
  | some c =>
    cases hx : ixO j n with
    | none => rw [child_ix.mpr hx] at hc; cases hc
    | some k =>
      rw [hx] at hi
      rw [hc] at hg
      have h0 : ¬ ((k : Int) < 0) := by omega
      have ih := ih c hc
      unfold pathD at ih
      rw [List.map_cons] at ih
      cases hgr : grow c (m :: r) v with
      | none =>
        rw [hgr] at ih
        simp [hi, toI, hl, h0, hg, ih, hgr]
      | some c' =>
        rw [hgr] at ih
        have hw := F_with_eq j n c' hs (by rw [hc]; exact fun z => nomatch z)
        simp [hi, toI, hl, h0, hg, ih, hw, hgr]
@[simp] theorem gEq_nm45 (n : Nm) : gEq (nmD n) (.tuple [.int 45]) = some (.bool (decide (n = [45]))) := gEq_nm n [45]
theorem grow_one (f : Nat) (j v : J) (n : Nm) (hs : size j ≤ 1000000) : F_grown (f + 1) [enc j, pathD [n], enc v] = some (optD (grow j [n] v)) := by
  refine runF_rt ?_
  show b_grown F_index (F_grown f) F_get F_with F_place [some (enc j), some (.tuple [nmD n]), some (enc v), none, none, none] () = _
  have hi := F_index_eq j n hs
  have hh := grow_head j (.tuple [nmD n]) (enc v) none none
  have hp := F_place_eq n
  unfold b_grown
  rw [sSeq_nx (D' := [some (enc j), some (.tuple [nmD n]), some (enc v), none, none, none]) (s' := ()) (by simp)]
  rw [sSeq_nx (D' := [some (enc j), some (.tuple [nmD n]), some (enc v), some (.str ""), none, none]) (s' := ()) (by simp)]
  rw [sSeq_nx hh]
  rw [sSeq_nx (D' := [some (enc j), some (.tuple [nmD n]), some (enc v), some (.str (hd j).s), some (.int (toI (ixO j n))), none]) (s' := ()) (by simp [hi])]
  rw [sSeq_nx (D' := [some (enc j), some (.tuple [nmD n]), some (enc v), some (.str (hd j).s), some (.int (toI (ixO j n))), none]) (s' := ()) (by simp)]
  show _ = some (Res.rt (optD (grow1 j n v)) ())
  cases j with
  | row xs =>
    have hl := len_row xs
    show _ = some (Res.rt (optD ((insAt (rowAt n xs) v xs).map J.row)) ())
    unfold hd Wd.s
    generalize hk0 : rowAt n xs = k0
    unfold rowAt at hk0
    have h4 : sAsg 4 (fIfE (fTst (fBin gEq (fBin gIx (fVar 1) (fC (.int 0))) (fTup (fCons (fC (.int 45)) fNil)))) (fUn gLen (fBin gIx (fVar 0) (fC (.int 1)))) (fCall 1 F_place (fCons (fBin gIx (fVar 1) (fC (.int 0))) fNil))) [some (enc (.row xs)), some (.tuple [nmD n]), some (enc v), some (.str "row"), some (.int (toI (ixO (.row xs) n))), none] () = some (.nx [some (enc (.row xs)), some (.tuple [nmD n]), some (enc v), some (.str "row"), some (.int k0), none] ()) := by
      by_cases c : n = [45]
      · rw [if_pos c] at hk0
        simp [c, enc_row, gEq_nm45, hk0]
      · rw [if_neg c] at hk0
        simp [c, enc_row, gEq_nm45, hp, hk0]
    rw [sSeq_nx (D' := [some (enc (.row xs)), some (.tuple [nmD n]), some (enc v), some (.str "row"), some (.int (toI (ixO (.row xs) n))), none]) (s' := ()) (by simp)]
    rw [sSeq_nx (D' := [some (enc (.row xs)), some (.tuple [nmD n]), some (enc v), some (.str "row"), some (.int (toI (ixO (.row xs) n))), none]) (s' := ()) (by simp)]
    rw [sSeq_nx h4]
    unfold insAt
    by_cases c : 0 ≤ k0 ∧ k0 ≤ xs.length
    · rw [if_pos c]
      obtain ⟨k, rfl⟩ : ∃ k : Nat, k0 = (k : Int) := ⟨k0.toNat, by omega⟩
      have c2 : (k : Int) ≤ (xs.length : Int) := c.2
      have e1 : gAdd (.tuple ((xs.map enc).take k)) (.tuple [enc v]) = some (.tuple ((xs.map enc).take k ++ [enc v])) := gAdd_t (by rw [List.length_take, List.length_map]; simp; omega)
      have e2 : gAdd (.tuple ((xs.map enc).take k ++ [enc v])) (.tuple ((xs.map enc).drop k)) = some (.tuple ((xs.take k ++ [v] ++ xs.drop k).map enc)) := by
        rw [gAdd_t (by rw [List.length_append, List.length_take, List.length_drop, List.length_map]; simp; omega), List.map_append, List.map_append, List.map_take, List.map_drop]
        rfl
      rw [sSeq_nx (D' := [some (enc (.row xs)), some (.tuple [nmD n]), some (enc v), some (.str "row"), some (.int (k : Int)), none]) (s' := ()) (by simp [enc_row, c2])]
      simp only [Int.toNat_natCast, Option.map_some, optD_some]
      rw [enc_row, enc_row]
      simp [cut_to, cut_from, e1, e2, -List.map_append]
    · rw [if_neg c]
      refine sSeq_rt ?_
      by_cases c1 : 0 ≤ k0
      · have c2 : ¬ (k0 ≤ (xs.length : Int)) := fun z => c ⟨c1, z⟩
        simp [enc_row, c1, c2]
      · simp [enc_row, c1]
  | fld ms =>
    have hl := len_fld ms
    unfold hd Wd.s grow1 putF
    cases hx : fiN n ms with
    | none =>
      have hx' : ixO (.fld ms) n = none := hx
      rw [hx']
      have e1 : gAdd (.tuple (ms.map encP)) (.tuple [.tuple [nmD n, enc v]]) = some (.tuple ((ms ++ [(n, v)]).map encP)) := by
        rw [gAdd_t (by rw [List.length_map]; simp; omega), List.map_append]
        rfl
      simp only [enc_fld] at *
      simp only [List.map_append] at e1
      simp [toI, e1, enc_fld, hx]
    | some k =>
      have hx' : ixO (.fld ms) n = some k := hx
      rw [hx']
      have hw := F_with_eq (.fld ms) n v hs (by rw [ne_eq, child_ix, hx']; exact fun z => nomatch z)
      rw [wt_fld hx] at hw
      simp [toI, hw, hx]
  | non => simp [hd, Wd.s, grow1]
  | bl b => simp [hd, Wd.s, grow1]
  | num a b => simp [hd, Wd.s, grow1]
  | txt cs => simp [hd, Wd.s, grow1]
end Pl

namespace Pl
open PySem DL Pg
theorem F_grown_eq : ∀ (f : Nat) (ns : List Nm) (j v : J), ns.length < f → size j ≤ 1000000 → F_grown f [enc j, pathD ns, enc v] = some (optD (grow j ns v))
  | 0, _, _, _, h, _ => absurd h (Nat.not_lt_zero _)
  | f + 1, [], j, v, _, _ => grow_nil f j v
  | f + 1, [n], j, v, _, hs => grow_one f j v n hs
  | f + 1, n :: m :: r, j, v, h, hs => grow_many f j v n m r hs fun c hc => F_grown_eq f (m :: r) c v (by simp at h ⊢; omega) (by have := child_size hc; omega)
def del1 : J → Nm → J
  | .row xs, n => match ixO (.row xs) n with
    | some k => .row (xs.eraseIdx k)
    | none => .row xs
  | .fld ms, n => match fiN n ms with
    | some k => .fld (ms.eraseIdx k)
    | none => .fld ms
  | j, _ => j
theorem del1_row {xs : List J} {n : Nm} {k : Nat} (h : ixO (.row xs) n = some k) : del1 (.row xs) n = .row (xs.eraseIdx k) := by
  show (match ixO (.row xs) n with | some k => J.row (xs.eraseIdx k) | none => .row xs) = _
  rw [h]
theorem del1_fld {ms : List (Nm × J)} {n : Nm} {k : Nat} (h : fiN n ms = some k) : del1 (.fld ms) n = .fld (ms.eraseIdx k) := by
  show (match fiN n ms with | some k => J.fld (ms.eraseIdx k) | none => .fld ms) = _
  rw [h]
def wo : J → List Nm → Option J
  | _, [] => none
  | j, [n] => (child j n).map fun _ => del1 j n
  | j, n :: m :: r => (child j n).bind fun c => (wo c (m :: r)).map fun c' => wt j n c'
def rp : J → List Nm → J → Option J
  | _, [], v => some v
  | j, n :: r, v => (child j n).bind fun c => (rp c r v).map fun c' => wt j n c'
theorem gt_cons (j : J) (n : Nm) (r : List Nm) : gt j (n :: r) = (child j n).bind fun c => gt c r := rfl
theorem wo_gt : ∀ (ns : List Nm) (j : J), ns ≠ [] → (gt j ns = none ↔ wo j ns = none)
  | [], _, h => absurd rfl h
  | [n], j, _ => by
    rw [gt_cons]
    unfold wo
    cases child j n with
    | none => simp
    | some c => simp [gt]
  | n :: m :: r, j, _ => by
    rw [gt_cons]
    unfold wo
    cases child j n with
    | none => simp
    | some c =>
      have ih := wo_gt (m :: r) c (fun z => nomatch z)
      simp [ih]
theorem rp_gt : ∀ (ns : List Nm) (j v : J), gt j ns = none ↔ rp j ns v = none
  | [], j, v => by simp [gt, rp]
  | n :: r, j, v => by
    rw [gt_cons]
    unfold rp
    cases child j n with
    | none => simp
    | some c =>
      have ih := rp_gt r c v
      simp [ih]
theorem erase_cut {xs : List PyData} {k : Nat} : xs.take k ++ xs.drop (k + 1) = xs.eraseIdx k := (List.eraseIdx_eq_take_drop_succ _ _).symm
theorem map_erase {α β : Type} (f : α → β) : ∀ (xs : List α) (k : Nat), (xs.map f).eraseIdx k = (xs.eraseIdx k).map f
  | [], k => by simp
  | x :: r, 0 => rfl
  | x :: r, k + 1 => by simp [map_erase f r k]
theorem wo_nil (f : Nat) (j : J) : F_without (f + 1) [enc j, pathD []] = some (optD none) := by
  refine runF_rt ?_
  show b_without F_get F_index (F_without f) F_with [some (enc j), some (.tuple []), none, none] () = _
  simp [b_without]
theorem wo_none (f : Nat) (j : J) (n : Nm) (r : List Nm) (hs : size j ≤ 1000000) (h : gt j (n :: r) = none) : F_without (f + 1) [enc j, pathD (n :: r)] = some (optD none) := by
  refine runF_rt ?_
  show b_without F_get F_index (F_without f) F_with [some (enc j), some (.tuple (nmD n :: r.map nmD)), none, none] () = _
  have hg := F_get_eq j (n :: r) hs
  rw [h] at hg
  unfold pathD at hg
  rw [List.map_cons] at hg
  simp [b_without, hg]
theorem wo_one (f : Nat) (j c : J) (n : Nm) (hs : size j ≤ 1000000) (h : child j n = some c) : F_without (f + 1) [enc j, pathD [n]] = some (optD (some (del1 j n))) := by
  refine runF_rt ?_
  show b_without F_get F_index (F_without f) F_with [some (enc j), some (.tuple [nmD n]), none, none] () = _
  have hg := get1 j n hs
  rw [h] at hg
  have hi := F_index_eq j n hs
  unfold b_without
  rw [sSeq_nx (D' := [some (enc j), some (.tuple [nmD n]), none, none]) (s' := ()) (by simp [hg])]
  refine sSeq_rt ?_
  cases j with
  | row xs =>
    have hl := len_row xs
    cases hx : ixO (.row xs) n with
    | none => rw [child_ix.mpr hx] at h; cases h
    | some k =>
      rw [hx] at hi
      rw [del1_row hx]
      simp only [enc_row] at hi ⊢
      have e1 : gAdd (.tuple ((xs.map enc).take k)) (.tuple ((xs.map enc).drop (k + 1))) = some (.tuple ((xs.eraseIdx k).map enc)) := by
        rw [gAdd_t (by rw [List.length_take, List.length_drop, List.length_map]; omega), erase_cut, map_erase]
      simp [hi, toI, cut_to, cut_from1, e1, enc_row]
  | fld ms =>
    have hl := len_fld ms
    cases hx : fiN n ms with
    | none => rw [child_ix.mpr (show ixO (.fld ms) n = none from hx)] at h; cases h
    | some k =>
      rw [show ixO (.fld ms) n = some k from hx] at hi
      rw [del1_fld hx]
      simp only [enc_fld] at hi ⊢
      have e1 : gAdd (.tuple ((ms.map encP).take k)) (.tuple ((ms.map encP).drop (k + 1))) = some (.tuple ((ms.eraseIdx k).map encP)) := by
        rw [gAdd_t (by rw [List.length_take, List.length_drop, List.length_map]; omega), erase_cut, map_erase]
      simp [hi, toI, cut_to, cut_from1, e1, enc_fld]
  | _ => cases h
theorem wo_many (f : Nat) (j c c' : J) (n m : Nm) (r : List Nm) (hs : size j ≤ 1000000) (h : child j n = some c) (hw : wo c (m :: r) = some c') (ih : F_without f [enc c, pathD (m :: r)] = some (optD (some c'))) :
    F_without (f + 1) [enc j, pathD (n :: m :: r)] = some (optD (some (wt j n c'))) := by
  refine runF_rt ?_
  show b_without F_get F_index (F_without f) F_with [some (enc j), some (.tuple (nmD n :: nmD m :: r.map nmD)), none, none] () = _
  have hg := F_get_eq j (n :: m :: r) hs
  have hg1 := get1 j n hs
  rw [h] at hg1
  have hd : ∃ d, gt j (n :: m :: r) = some d := by
    rw [gt_cons, h]
    cases hq : gt c (m :: r) with
    | none => rw [(wo_gt (m :: r) c (fun z => nomatch z)).mp hq] at hw; cases hw
    | some d => exact ⟨d, hq⟩
  obtain ⟨d, hd⟩ := hd
  rw [hd] at hg
  unfold pathD at hg ih
  rw [List.map_cons, List.map_cons] at hg
  rw [List.map_cons] at ih
  have hww := F_with_eq j n c' hs (by rw [h]; exact fun z => nomatch z)
  have hl : (r.length : Int) + 1 + 1 ≠ 1 := by omega
  simp [b_without, hg, hg1, ih, hww, hl]
theorem F_without_eq : ∀ (f : Nat) (ns : List Nm) (j : J), ns.length < f → size j ≤ 1000000 → F_without f [enc j, pathD ns] = some (optD (wo j ns))
  | 0, _, _, h, _ => absurd h (Nat.not_lt_zero _)
  | f + 1, [], j, _, _ => wo_nil f j
  | f + 1, [n], j, _, hs => by
    cases hc : child j n with
    | none =>
      have hg : gt j [n] = none := by rw [gt_cons, hc]; rfl
      rw [wo_none f j n [] hs hg]
      unfold wo
      rw [hc]
      rfl
    | some c =>
      rw [wo_one f j c n hs hc]
      unfold wo
      rw [hc]
      rfl
  | f + 1, n :: m :: r, j, h, hs => by
    cases hw : wo j (n :: m :: r) with
    | none => exact wo_none f j n (m :: r) hs ((wo_gt (n :: m :: r) j (fun z => nomatch z)).mpr hw)
    | some d =>
      have hw' : ((child j n).bind fun c => (wo c (m :: r)).map fun c' => wt j n c') = some d := hw
      obtain ⟨c, hc, hw'⟩ := bind_some hw'
      obtain ⟨c', hc', e⟩ := Option.map_eq_some_iff.mp hw'
      rw [← e]
      have ih := F_without_eq f (m :: r) c (by simp at h ⊢; omega) (by have := child_size hc; omega)
      rw [hc'] at ih
      exact wo_many f j c c' n m r hs hc hc' ih
theorem F_replaced_eq : ∀ (f : Nat) (ns : List Nm) (j v : J), ns.length < f → size j ≤ 1000000 → F_replaced f [enc j, pathD ns, enc v] = some (optD (rp j ns v))
  | 0, _, _, _, h, _ => absurd h (Nat.not_lt_zero _)
  | f + 1, ns, j, v, h, hs => by
    refine runF_rt ?_
    show b_replaced F_get (F_replaced f) F_with [some (enc j), some (pathD ns), some (enc v), none] () = _
    have hg := F_get_eq j ns hs
    cases hr : rp j ns v with
    | none =>
      rw [(rp_gt ns j v).mpr hr] at hg
      simp [b_replaced, hg]
    | some d =>
      have hd : ∃ d, gt j ns = some d := by
        cases hq : gt j ns with
        | none => rw [(rp_gt ns j v).mp hq] at hr; cases hr
        | some d => exact ⟨d, rfl⟩
      obtain ⟨d', hd⟩ := hd
      rw [hd] at hg
      match ns, hr, hg, h with
      | [], hr, hg, h =>
        have e : v = d := Option.some.inj hr
        subst e
        unfold pathD at hg ⊢
        rw [List.map_nil] at hg ⊢
        simp [b_replaced, hg]
      | n :: r, hr, hg, h =>
        have hr' : ((child j n).bind fun c => (rp c r v).map fun c' => wt j n c') = some d := hr
        obtain ⟨c, hc, hr'⟩ := bind_some hr'
        obtain ⟨c', hc', e⟩ := Option.map_eq_some_iff.mp hr'
        have ih := F_replaced_eq f r c v (by simp at h ⊢; omega) (by have := child_size hc; omega)
        rw [hc'] at ih
        have hg1 := get1 j n hs
        rw [hc] at hg1
        have hww := F_with_eq j n c' hs (by rw [hc]; exact fun z => nomatch z)
        unfold pathD at hg ih ⊢
        rw [List.map_cons] at hg ⊢
        rw [← e]
        simp [b_replaced, hg, hg1, ih, hww]
end Pl

namespace Pl
open PySem DL Pg
/-! ### alike -/
def lk (n : Nm) (ms : List (Nm × J)) : Option J := (fiN n ms).bind fun k => (ms[k]?).map (·.2)
theorem child_fld' (ms : List (Nm × J)) (n : Nm) : child (.fld ms) n = lk n ms := rfl
def alk : J → J → Bool
  | .row xs, .row ys => decide (xs.length = ys.length) && (List.zipWith (fun (x : {x // x ∈ xs}) y => alk x.1 y) xs.attach ys).all id
  | .fld ms, .fld ms' => decide (ms.length = ms'.length) && (ms.attach.map fun m => match lk m.1.1 ms' with
    | some v => alk m.1.2 v
    | none => false).all id
  | .non, .non => true
  | .bl a, .bl b => a == b
  | .num a b, .num c d => decide (a = c) && decide (b = d)
  | .txt a, .txt b => decide (a = b)
  | _, _ => false
termination_by a => sizeOf a
decreasing_by
  · have := List.sizeOf_lt_of_mem x.2; simp; omega
  · have := mem_sz m.2; simp; omega
theorem alk_row (xs ys : List J) : alk (.row xs) (.row ys) = (decide (xs.length = ys.length) && (List.zipWith alk xs ys).all id) := by
  rw [alk]
  congr 1
  have e : List.zipWith (fun (x : {x // x ∈ xs}) y => alk x.1 y) xs.attach ys = List.zipWith alk xs ys := by
    have h := List.zipWith_map_left (g := alk) (f := fun (x : {x // x ∈ xs}) => x.1) (l₁ := xs.attach) (l₂ := ys)
    have ha : xs.attach.map (fun x => x.1) = xs := by
      have := att xs (fun x => x)
      simpa using this
    rw [ha] at h
    exact h.symm
  rw [e]
def alkM (ms' : List (Nm × J)) (m : Nm × J) : Bool := match lk m.1 ms' with
  | some v => alk m.2 v
  | none => false
theorem alk_fld (ms ms' : List (Nm × J)) : alk (.fld ms) (.fld ms') = (decide (ms.length = ms'.length) && ms.all (alkM ms')) := by
  rw [alk]
  congr 1
  have h := att ms (alkM ms')
  have e : (ms.attach.map fun m => match lk m.1.1 ms' with
    | some v => alk m.1.2 v
    | none => false) = ms.map (alkM ms') := h
  rw [e, List.all_map]
  rfl
theorem alk_non : alk .non .non = true := by rw [alk]
theorem alk_bl (a b : Bool) : alk (.bl a) (.bl b) = (a == b) := by rw [alk]
theorem alk_num (a b c d : Int) : alk (.num a b) (.num c d) = (decide (a = c) && decide (b = d)) := by rw [alk]
theorem alk_txt (a b : List Int) : alk (.txt a) (.txt b) = decide (a = b) := by rw [alk]
/-- which of the six -/
def ct : J → Nat
  | .non => 0 | .bl _ => 1 | .num _ _ => 2 | .txt _ => 3 | .row _ => 4 | .fld _ => 5
theorem alk_ne {a b : J} (h : ct a ≠ ct b) : alk a b = false := by
  cases a <;> cases b <;> first | exact absurd rfl h | (rw [alk] <;> (intros; simp_all))
theorem be_row_row : (("row" : Str) == ("row" : Str)) = true := Wd.eq .row .row
theorem be_row_fields : (("row" : Str) == ("fields" : Str)) = false := Wd.eq .row .fields
theorem be_row_number : (("row" : Str) == ("number" : Str)) = false := Wd.eq .row .number
theorem be_row_text : (("row" : Str) == ("text" : Str)) = false := Wd.eq .row .text
theorem be_fields_row : (("fields" : Str) == ("row" : Str)) = false := Wd.eq .fields .row
theorem be_fields_fields : (("fields" : Str) == ("fields" : Str)) = true := Wd.eq .fields .fields
theorem be_fields_number : (("fields" : Str) == ("number" : Str)) = false := Wd.eq .fields .number
theorem be_fields_text : (("fields" : Str) == ("text" : Str)) = false := Wd.eq .fields .text
theorem be_number_row : (("number" : Str) == ("row" : Str)) = false := Wd.eq .number .row
theorem be_number_fields : (("number" : Str) == ("fields" : Str)) = false := Wd.eq .number .fields
theorem be_number_number : (("number" : Str) == ("number" : Str)) = true := Wd.eq .number .number
theorem be_number_text : (("number" : Str) == ("text" : Str)) = false := Wd.eq .number .text
theorem be_text_row : (("text" : Str) == ("row" : Str)) = false := Wd.eq .text .row
theorem be_text_fields : (("text" : Str) == ("fields" : Str)) = false := Wd.eq .text .fields
theorem be_text_number : (("text" : Str) == ("number" : Str)) = false := Wd.eq .text .number
theorem be_text_text : (("text" : Str) == ("text" : Str)) = true := Wd.eq .text .text

theorem cl_wd (a : Wd) : (PyData.str a.s).canLay0 = true := by rw [PyData.canLay0]; exact a.ok
theorem cl_all {xs : List PyData} (h : ∀ x ∈ xs, x.canLay0 = true) : PyData.canLayAll0 xs = true := by
  induction xs with
  | nil => rw [PyData.canLayAll0]
  | cons x r ih => rw [PyData.canLayAll0, h x List.mem_cons_self, ih fun y hy => h y (List.mem_cons_of_mem _ hy)]; rfl
theorem cl_enc (j : J) : (enc j).canLay0 = true := by
  induction j using J.ind with
  | h1 => rw [enc_non, PyData.canLay0]
  | h2 b => rw [enc_bl, PyData.canLay0]
  | h3 a b =>
    rw [enc_num, PyData.canLay0]
    refine cl_all fun x hx => ?_
    simp only [List.mem_cons, List.not_mem_nil, or_false] at hx
    rcases hx with rfl | rfl | rfl
    · exact cl_wd .number
    · rw [PyData.canLay0]
    · rw [PyData.canLay0]
  | h4 cs =>
    rw [enc_txt, PyData.canLay0]
    refine cl_all fun x hx => ?_
    simp only [List.mem_cons, List.not_mem_nil, or_false] at hx
    rcases hx with rfl | rfl
    · exact cl_wd .text
    · rw [PyData.canLay0]; exact cl_ints cs
  | h5 xs ih =>
    rw [enc_row, PyData.canLay0]
    refine cl_all fun x hx => ?_
    simp only [List.mem_cons, List.not_mem_nil, or_false] at hx
    rcases hx with rfl | rfl
    · exact cl_wd .row
    · rw [PyData.canLay0]
      refine cl_all fun y hy => ?_
      obtain ⟨z, hz, rfl⟩ := List.mem_map.mp hy
      exact ih z hz
  | h6 ms ih =>
    rw [enc_fld, PyData.canLay0]
    refine cl_all fun x hx => ?_
    simp only [List.mem_cons, List.not_mem_nil, or_false] at hx
    rcases hx with rfl | rfl
    · exact cl_wd .fields
    · rw [PyData.canLay0]
      refine cl_all fun y hy => ?_
      obtain ⟨z, hz, rfl⟩ := List.mem_map.mp hy
      unfold encP
      rw [PyData.canLay0]
      refine cl_all fun y hy => ?_
      simp only [List.mem_cons, List.not_mem_nil, or_false] at hy
      rcases hy with rfl | rfl
      · exact cl_nm _
      · exact ih z hz
theorem dp_all {xs : List PyData} {n : Nat} (h : ∀ x ∈ xs, x.depth ≤ n) : PyData.depthAll xs ≤ n := by
  induction xs with
  | nil => rw [PyData.depthAll]; exact Nat.zero_le _
  | cons x r ih => rw [PyData.depthAll]; exact Nat.max_le.mpr ⟨h x List.mem_cons_self, ih fun y hy => h y (List.mem_cons_of_mem _ hy)⟩
theorem dp_str0 (x : Str) : (PyData.str x).depth = 0 := by rw [PyData.depth]
theorem dp_int0 (x : Int) : (PyData.int x).depth = 0 := by rw [PyData.depth]
theorem dp_tup {xs : List PyData} {n : Nat} (h : ∀ x ∈ xs, x.depth ≤ n) : (PyData.tuple xs).depth ≤ n + 1 := by
  rw [PyData.depth]; exact Nat.succ_le_succ (dp_all h)
theorem dp_enc (j : J) : (enc j).depth ≤ 3 * depth j + 2 := by
  induction j using J.ind with
  | h1 => rw [enc_non, PyData.depth]; exact Nat.zero_le _
  | h2 b => rw [enc_bl, PyData.depth]; exact Nat.zero_le _
  | h3 a b =>
    rw [enc_num]
    refine Nat.le_trans (dp_tup (n := 0) fun x hx => ?_) (by omega)
    simp only [List.mem_cons, List.not_mem_nil, or_false] at hx
    rcases hx with rfl | rfl | rfl
    · rw [dp_str0]; exact Nat.le_refl _
    · rw [dp_int0]; exact Nat.le_refl _
    · rw [dp_int0]; exact Nat.le_refl _
  | h4 cs =>
    rw [enc_txt]
    refine Nat.le_trans (dp_tup (n := 1) fun x hx => ?_) (by omega)
    simp only [List.mem_cons, List.not_mem_nil, or_false] at hx
    rcases hx with rfl | rfl
    · rw [dp_str0]; exact Nat.zero_le _
    · rw [PyData.depth, dp_ints]; exact Nat.le_refl _
  | h5 xs ih =>
    rw [enc_row]
    refine Nat.le_trans (dp_tup (n := 3 * depth (.row xs)) fun x hx => ?_) (by omega)
    simp only [List.mem_cons, List.not_mem_nil, or_false] at hx
    rcases hx with rfl | rfl
    · rw [dp_str0]; exact Nat.zero_le _
    · have h0 : 1 ≤ depth (.row xs) := by rw [depth_row]; omega
      refine Nat.le_trans (dp_tup (n := 3 * depth (.row xs) - 1) fun y hy => ?_) (by omega)
      obtain ⟨z, hz, rfl⟩ := List.mem_map.mp hy
      have h1 := ih z hz
      have h2 := depth_mem hz
      omega
  | h6 ms ih =>
    rw [enc_fld]
    refine Nat.le_trans (dp_tup (n := 3 * depth (.fld ms) + 1) fun x hx => ?_) (by omega)
    simp only [List.mem_cons, List.not_mem_nil, or_false] at hx
    rcases hx with rfl | rfl
    · rw [dp_str0]; exact Nat.zero_le _
    · refine Nat.le_trans (dp_tup (n := 3 * depth (.fld ms)) fun y hy => ?_) (Nat.le_refl _)
      obtain ⟨z, hz, rfl⟩ := List.mem_map.mp hy
      have h1 := ih z hz
      have h2 := depth_memf hz
      unfold encP
      refine Nat.le_trans (dp_tup (n := 3 * depth (.fld ms) - 1) fun w hw => ?_) (by omega)
      simp only [List.mem_cons, List.not_mem_nil, or_false] at hw
      rcases hw with rfl | rfl
      · rw [dp_nm]; omega
      · omega
/-- == where at least one is no row and no fields, or the two are of unlike kinds -/
theorem eqv_enc {a b : J} (h : kd a = .none ∨ kd b = .none ∨ kd a ≠ kd b) : PyData.eqv (enc a) (enc b) = alk a b := by
  cases a <;> cases b <;> first
    | (simp [kd] at h; done)
    | (rw [alk_ne (by simp [ct])]; simp only [enc_non, enc_bl, enc_num, enc_txt, enc_row, enc_fld]; (try simp only [PyData.eqv, PyData.eqvAll, be_row_fields, be_row_number, be_row_text, be_fields_row, be_fields_number, be_fields_text, be_number_row, be_number_fields, be_number_text, be_text_row, be_text_fields, be_text_number, Bool.false_and]); done)
    | skip
  all_goals first
    | (rw [enc_non, PyData.eqv, alk_non]; done)
    | (rw [enc_bl, enc_bl, PyData.eqv, alk_bl]; done)
    | (rw [enc_num, enc_num, alk_num]; simp only [PyData.eqv, PyData.eqvAll, be_number_number, Bool.true_and, Bool.and_true]; rfl)
    | (rw [enc_txt, enc_txt, alk_txt]; simp [PyData.eqv, PyData.eqvAll, be_text_text, eqv_ints]; done)
    | skip

theorem gEq_enc {a b : J} (h : kd a = .none ∨ kd b = .none ∨ kd a ≠ kd b) (hd : depth b ≤ 64) : gEq (enc a) (enc b) = some (.bool (alk a b)) := by
  rw [gEq_of (cl_enc a) (cl_enc b) (Nat.le_trans (Nat.min_le_right _ _) (Nat.le_trans (dp_enc b) (by omega))), eqv_enc h]
/-- isinstance(x, tuple) -/
def isT : J → Bool
  | .non => false
  | .bl _ => false
  | _ => true
@[simp] theorem gIsTup_enc (a : J) : gIsTup (enc a) = some (.bool (isT a)) := by
  cases a with
  | non => rw [enc_non]; rfl
  | bl b => rw [enc_bl]; rfl
  | num n p => rw [enc_num]; rfl
  | txt cs => rw [enc_txt]; rfl
  | row xs => rw [enc_row]; rfl
  | fld ms => rw [enc_fld]; rfl
theorem alk_ct {a b : J} (h : alk a b = true) : ct a = ct b := by
  by_cases e : ct a = ct b
  · exact e
  · rw [alk_ne e] at h; cases h
theorem ct_isT {a b : J} (h : ct a = ct b) : isT a = isT b := by
  cases a <;> cases b <;> first | rfl | (simp [ct] at h)
theorem alk_isT (a b : J) : (alk a b && (isT a == isT b)) = alk a b := by
  cases h : alk a b with
  | false => rfl
  | true => rw [ct_isT (alk_ct h)]; simp
@[simp] theorem gEq_bool (a b : Bool) : gEq (.bool a) (.bool b) = some (.bool (a == b)) := by
  rw [gEq_of (by rw [PyData.canLay0]) (by rw [PyData.canLay0]) (by simp [PyData.depth]), PyData.eqv]
@[simp] theorem gNe_bool (a b : Bool) : gNe (.bool a) (.bool b) = some (.bool (!(a == b))) := by
  rw [gNe_of (by rw [PyData.canLay0]) (by rw [PyData.canLay0]) (by simp [PyData.depth]), PyData.eqv]
theorem kd_ct (j : J) : (kd j = .none ∧ ct j < 4) ∨ (kd j = .row ∧ ct j = 4) ∨ (kd j = .fields ∧ ct j = 5) := by
  cases j <;> simp [kd, ct]
end Pl

namespace Pl
open PySem DL Pg
theorem lk_nil (n : Nm) : lk n [] = none := rfl
theorem lk_cons (n : Nm) (m : Nm × J) (r : List (Nm × J)) : lk n (m :: r) = if m.1 = n then some m.2 else lk n r := by
  unfold lk
  rw [fiN]
  by_cases h : m.1 = n
  · rw [if_pos h, if_pos h]; rfl
  · rw [if_neg h, if_neg h]
    cases fiN n r with
    | none => rfl
    | some k => rfl
theorem lk_none {n : Nm} : ∀ {ms : List (Nm × J)}, lk n ms = none ↔ ∀ m ∈ ms, m.1 ≠ n
  | [] => by simp [lk_nil]
  | m :: r => by
    rw [lk_cons]
    by_cases h : m.1 = n
    · simp [h]
    · rw [if_neg h, lk_none]
      simp [h]
theorem lk_mem {n : Nm} {v : J} : ∀ {ms : List (Nm × J)}, lk n ms = some v → (n, v) ∈ ms
  | m :: r, h => by
    rw [lk_cons] at h
    by_cases e : m.1 = n
    · rw [if_pos e] at h
      have : m.2 = v := Option.some.inj h
      have e2 : m = (n, v) := by cases m; simp at e this; rw [e, this]
      rw [e2]; exact List.mem_cons_self
    · rw [if_neg e] at h
      exact List.mem_cons_of_mem _ (lk_mem h)
theorem lk_of_mem {m : Nm × J} : ∀ {ms : List (Nm × J)}, (ms.map (·.1)).Nodup → m ∈ ms → lk m.1 ms = some m.2
  | a :: r, nd, h => by
    rw [List.map_cons, List.nodup_cons] at nd
    rw [lk_cons]
    rcases List.mem_cons.mp h with rfl | h
    · rw [if_pos rfl]
    · have : a.1 ≠ m.1 := fun z => nd.1 (by rw [z]; exact List.mem_map_of_mem (f := fun p : Nm × J => p.1) h)
      rw [if_neg this]
      exact lk_of_mem nd.2 h
theorem filt_none {n : Nm} {ms : List (Nm × J)} (h : lk n ms = none) : ms.filter (fun p => decide (p.1 = n)) = [] := by
  rw [List.filter_eq_nil_iff]
  intro m hm
  have := lk_none.mp h m hm
  simpa using this
theorem filt_lk {n : Nm} : ∀ {ms : List (Nm × J)}, (ms.map (·.1)).Nodup → ms.filter (fun p => decide (p.1 = n)) = match lk n ms with
    | some v => [(n, v)]
    | none => []
  | [], _ => rfl
  | m :: r, nd => by
    rw [List.map_cons, List.nodup_cons] at nd
    rw [lk_cons]
    by_cases h : m.1 = n
    · rw [if_pos h, List.filter_cons, if_pos (by simpa using h)]
      have hn : lk n r = none := lk_none.mpr fun p hp z => nd.1 (by rw [h, ← z]; exact List.mem_map_of_mem (f := fun p : Nm × J => p.1) hp)
      rw [filt_none hn]
      have : m = (n, m.2) := by cases m; simp at h; rw [h]
      exact congrArg (fun x => [x]) this
    · rw [if_neg h, List.filter_cons, if_neg (by simpa using h)]
      exact filt_lk nd.2
theorem findSome_all {α : Type} {p : α → Bool} {d : PyData} : ∀ (l : List α), l.findSome? (fun x => if p x = true then none else some d) = if l.all p = true then none else some d
  | [] => rfl
  | x :: r => by
    rw [List.findSome?_cons, List.all_cons]
    cases h : p x with
    | true => simp [findSome_all r]
    | false => simp
def at2 (xs ys : List J) (k : Nat) : Bool := match xs[k]?, ys[k]? with
  | some x, some y => alk x y
  | _, _ => false
theorem all_succ (p : Nat → Bool) (n : Nat) : (List.range (n + 1)).all p = (p 0 && (List.range n).all fun k => p (k + 1)) := by
  rw [List.range_succ_eq_map, List.all_cons, List.all_map]
  rfl
theorem all_zip : ∀ (xs ys : List J), xs.length = ys.length → (List.range xs.length).all (at2 xs ys) = (List.zipWith alk xs ys).all id
  | [], [], _ => rfl
  | x :: xs, y :: ys, h => by
    rw [List.length_cons, all_succ, List.zipWith_cons_cons, List.all_cons]
    have ih := all_zip xs ys (by simpa using h)
    rw [← ih]
    rfl
def atM (ms ms' : List (Nm × J)) (k : Nat) : Bool := match ms[k]? with
  | some m => alkM ms' m
  | none => false
theorem all_flds (ms' : List (Nm × J)) : ∀ (ms : List (Nm × J)), (List.range ms.length).all (atM ms ms') = ms.all (alkM ms')
  | [] => rfl
  | m :: r => by
    rw [List.length_cons, all_succ, List.all_cons]
    have ih := all_flds ms' r
    rw [← ih]
    rfl
theorem lalike_none (n : Nat) (a b : J) (h : kd a = .none ∨ kd b = .none ∨ kd a ≠ kd b) (hd : depth b ≤ 64) : F_lalike (n + 1) [enc a, enc b] = some (.bool (alk a b)) := by
  refine runF_rt ?_
  show b_lalike F_kind (F_lalike n) [some (enc a), some (enc b), none, none, none, none] () = _
  have ha := F_kind_eq a
  have hb := F_kind_eq b
  have he := gEq_enc h hd
  unfold b_lalike
  rw [sSeq_nx (D' := [some (enc a), some (enc b), some (.str (kd a).s), none, none, none]) (s' := ()) (by simp [ha])]
  refine sSeq_rt ?_
  have e1 : gEq (.str (kd a).s) (.str "") = some (.bool (decide (kd a = .none))) := gEq_wd (kd a) .none
  have e2 := gNe_wd (kd a) (kd b)
  have e3 := alk_isT a b
  have hret : sRet (fAndV (fBin gEq (fVar 0) (fVar 1)) (fBin gEq (fUn gIsTup (fVar 0)) (fUn gIsTup (fVar 1)))) [some (enc a), some (enc b), some (.str (kd a).s), none, none, none] () = some (.rt (.bool (alk a b)) ()) := by
    cases hk : alk a b with
    | false =>
      rw [hk] at he
      simp [he]
    | true =>
      rw [hk] at he
      rw [ct_isT (alk_ct hk)] at e3
      simp [he, ct_isT (alk_ct hk)]
  by_cases c : kd a = .none
  · rw [sIf_ap]
    have : fOrT (fTst (fBin gEq (fVar 2) (fC (.str "")))) (fTst (fBin gNe (fVar 2) (fCall 1 F_kind (fCons (fVar 1) fNil)))) [some (enc a), some (enc b), some (.str (kd a).s), none, none, none] () = some true := by
      rw [c] at e1 ⊢
      simp [e1]
    rw [this, ifS_t]
    exact hret
  · have c2 : kd a ≠ kd b := by
      rcases h with h | h | h
      · exact absurd h c
      · rw [h]; exact c
      · exact h
    rw [sIf_ap]
    have : fOrT (fTst (fBin gEq (fVar 2) (fC (.str "")))) (fTst (fBin gNe (fVar 2) (fCall 1 F_kind (fCons (fVar 1) fNil)))) [some (enc a), some (enc b), some (.str (kd a).s), none, none, none] () = some true := by
      simp [e1, c, hb, e2, c2]
    rw [this, ifS_t]
    exact hret

theorem lalike_row (n : Nat) (xs ys : List J) (hs : size (.row xs) ≤ 1000000) (ih : ∀ x ∈ xs, ∀ y ∈ ys, F_lalike n [enc x, enc y] = some (.bool (alk x y))) : F_lalike (n + 1) [enc (.row xs), enc (.row ys)] = some (.bool (alk (.row xs) (.row ys))) := by
  refine runF_rt ?_
  show b_lalike F_kind (F_lalike n) [some (enc (.row xs)), some (enc (.row ys)), none, none, none, none] () = _
  have ha := F_kind_eq (.row xs)
  have hb := F_kind_eq (.row ys)
  have hl := len_row xs
  unfold b_lalike
  rw [sSeq_nx (D' := [some (enc (.row xs)), some (enc (.row ys)), some (.str "row"), none, none, none]) (s' := ()) (by simp [ha, kd, Wd.s])]
  rw [sSeq_nx (D' := [some (enc (.row xs)), some (enc (.row ys)), some (.str "row"), none, none, none]) (s' := ()) (by simp [hb, kd, Wd.s])]
  rw [alk_row]
  by_cases c : xs.length = ys.length
  · rw [sSeq_nx (D' := [some (enc (.row xs)), some (enc (.row ys)), some (.str "row"), none, none, none]) (s' := ()) (by simp [enc_row, c])]
    have hr := range1_nat xs.length (by omega)
    have hloop := forL_find (S := Unit) (st := st1 3) (b := lb_lalike_1 F_kind (F_lalike n)) (g := fun (k : Nat) => PyData.int (k : Int)) (fun (k : Nat) => if at2 xs ys k = true then none else some (PyData.bool false))
      (fun D _ => ∃ o, D = [some (enc (.row xs)), some (enc (.row ys)), some (.str "row"), o, none, none]) (List.range xs.length) [some (enc (.row xs)), some (enc (.row ys)), some (.str "row"), none, none, none] () (by
        rintro k hk D s ⟨o, rfl⟩
        have hk1 : k < xs.length := List.mem_range.mp hk
        have hk2 : k < ys.length := by omega
        refine ⟨_, rfl, ?_⟩
        have h1 := ih xs[k] (List.getElem_mem hk1) ys[k] (List.getElem_mem hk2)
        have h2 : at2 xs ys k = alk xs[k] ys[k] := by
          unfold at2
          rw [List.getElem?_eq_getElem hk1, List.getElem?_eq_getElem hk2]
        rw [h2]
        cases hq : alk xs[k] ys[k] with
        | true =>
          rw [hq] at h1
          refine ⟨_, (), ?_, ⟨some (.int k), rfl⟩⟩
          simp [lb_lalike_1, enc_row, atI_nat, hk1, hk2, h1]
        | false =>
          rw [hq] at h1
          refine ⟨(), ?_⟩
          simp [lb_lalike_1, enc_row, atI_nat, hk1, hk2, h1]) ⟨none, rfl⟩
    rw [findSome_all, all_zip xs ys c] at hloop
    have hfor : sFor range1 (st1 3) (fUn gLen (fBin gIx (fVar 0) (fC (.int 1)))) (lb_lalike_1 F_kind (F_lalike n)) [some (enc (.row xs)), some (enc (.row ys)), some (.str "row"), none, none, none] () = forL (st1 3) (lb_lalike_1 F_kind (F_lalike n)) ((List.range xs.length).map fun (k : Nat) => PyData.int (k : Int)) [some (enc (.row xs)), some (enc (.row ys)), some (.str "row"), none, none, none] () := by
      simp [enc_row, forO_R hr]
    cases hq : (List.zipWith alk xs ys).all id with
    | true =>
      rw [hq, if_pos rfl] at hloop
      obtain ⟨D', s', h1, o, rfl⟩ := hloop
      rw [sSeq_nx (hfor.trans h1)]
      simp [c]
    | false =>
      rw [hq, if_neg Bool.false_ne_true] at hloop
      obtain ⟨s', h1⟩ := hloop
      rw [sSeq_rt (hfor.trans h1)]
      simp [c]
  · refine sSeq_rt ?_
    have c' : ¬ ((xs.length : Int) = (ys.length : Int)) := by omega
    simp [enc_row, c, c']
theorem lalike_fld (n : Nat) (ms ms' : List (Nm × J)) (hs : size (.fld ms) ≤ 1000000) (hs' : size (.fld ms') ≤ 1000000) (nd : (ms'.map (·.1)).Nodup) (ih : ∀ x ∈ ms, ∀ y ∈ ms', F_lalike n [enc x.2, enc y.2] = some (.bool (alk x.2 y.2))) : F_lalike (n + 1) [enc (.fld ms), enc (.fld ms')] = some (.bool (alk (.fld ms) (.fld ms'))) := by
  refine runF_rt ?_
  show b_lalike F_kind (F_lalike n) [some (enc (.fld ms)), some (enc (.fld ms')), none, none, none, none] () = _
  have ha := F_kind_eq (.fld ms)
  have hb := F_kind_eq (.fld ms')
  have hl := len_fld ms
  have hl' := len_fld ms'
  unfold b_lalike
  rw [sSeq_nx (D' := [some (enc (.fld ms)), some (enc (.fld ms')), some (.str "fields"), none, none, none]) (s' := ()) (by simp [ha, kd, Wd.s])]
  rw [sSeq_nx (D' := [some (enc (.fld ms)), some (enc (.fld ms')), some (.str "fields"), none, none, none]) (s' := ()) (by simp [hb, kd, Wd.s])]
  rw [alk_fld]
  by_cases c : ms.length = ms'.length
  · rw [sSeq_nx (D' := [some (enc (.fld ms)), some (enc (.fld ms')), some (.str "fields"), none, none, none]) (s' := ()) (by simp [enc_fld, c])]
    have hr := range1_nat ms.length (by omega)
    have hloop := forL_find (S := Unit) (st := st1 3) (b := lb_lalike_1 F_kind (F_lalike n)) (g := fun (k : Nat) => PyData.int (k : Int)) (fun (k : Nat) => if atM ms ms' k = true then none else some (PyData.bool false))
      (fun D _ => ∃ o o4, D = [some (enc (.fld ms)), some (enc (.fld ms')), some (.str "fields"), o, o4, none]) (List.range ms.length) [some (enc (.fld ms)), some (enc (.fld ms')), some (.str "fields"), none, none, none] () (by
        rintro k hk D s ⟨o, o4, rfl⟩
        have hk1 : k < ms.length := List.mem_range.mp hk
        refine ⟨_, rfl, ?_⟩
        have h2 : atM ms ms' k = alkM ms' ms[k] := by
          unfold atM
          rw [List.getElem?_eq_getElem hk1]
        have hcomp : fComp itemsT 5 (fBin gIx (fVar 1) (fC (.int 1))) (fTst (fBin gEq (fBin gIx (fVar 5) (fC (.int 0))) (fBin gIx (fBin gIx (fBin gIx (fVar 0) (fC (.int 1))) (fVar 3)) (fC (.int 0))))) (fVar 5) [some (enc (.fld ms)), some (enc (.fld ms')), some (.str "fields"), some (.int k), o4, none] s = some (.list ((ms'.filter (fun p => decide (p.1 = ms[k].1))).map encP)) := by
          rw [fComp_ap]
          have e0 : (fBin gIx (fVar 1) (fC (.int 1)) : FE Unit) [some (enc (.fld ms)), some (enc (.fld ms')), some (.str "fields"), some (.int k), o4, none] s = some (.tuple (ms'.map encP)) := by
            simp [enc_fld]
          rw [e0]
          refine compO_T (by rw [List.length_map]; omega) ?_
          refine compL_filter (fun p => decide (p.1 = ms[k].1)) encP _ _ ms' (fun x hx => ?_) fun x hx => ?_
          · simp [enc_fld, atI_nat, hk1]
          · simp
        rw [filt_lk nd] at hcomp
        rw [h2]
        unfold alkM
        cases hq : lk ms[k].1 ms' with
        | none =>
          rw [hq] at hcomp
          refine ⟨(), ?_⟩
          simp only [List.map_nil] at hcomp
          simp [lb_lalike_1, -fComp_ap, hcomp]
        | some v =>
          rw [hq] at hcomp
          have h1 := ih ms[k] (List.getElem_mem hk1) _ (lk_mem hq)
          simp only [List.map_cons, List.map_nil] at hcomp
          simp only
          by_cases hz : alk ms[k].2 v = true
          · rw [hz] at h1
            rw [if_pos hz]
            refine ⟨_, (), ?_, ⟨some (.int k), some (.list [encP (ms[k].1, v)]), rfl⟩⟩
            simp [lb_lalike_1, -fComp_ap, hcomp]
            simp [enc_fld, atI_nat, hk1, h1]
          · rw [Bool.eq_false_iff.mpr hz] at h1
            rw [if_neg hz]
            refine ⟨(), ?_⟩
            simp [lb_lalike_1, -fComp_ap, hcomp]
            simp [enc_fld, atI_nat, hk1, h1]) ⟨none, none, rfl⟩
    rw [findSome_all, all_flds] at hloop
    have hfor : sFor range1 (st1 3) (fUn gLen (fBin gIx (fVar 0) (fC (.int 1)))) (lb_lalike_1 F_kind (F_lalike n)) [some (enc (.fld ms)), some (enc (.fld ms')), some (.str "fields"), none, none, none] () = forL (st1 3) (lb_lalike_1 F_kind (F_lalike n)) ((List.range ms.length).map fun (k : Nat) => PyData.int (k : Int)) [some (enc (.fld ms)), some (enc (.fld ms')), some (.str "fields"), none, none, none] () := by
      simp [enc_fld, forO_R hr]
    cases hq : ms.all (alkM ms') with
    | true =>
      rw [hq, if_pos rfl] at hloop
      obtain ⟨D', s', h1, o, o4, rfl⟩ := hloop
      rw [sSeq_nx (hfor.trans h1)]
      simp [c]
    | false =>
      rw [hq, if_neg Bool.false_ne_true] at hloop
      obtain ⟨s', h1⟩ := hloop
      rw [sSeq_rt (hfor.trans h1)]
      simp [c]
  · refine sSeq_rt ?_
    have c' : ¬ ((ms.length : Int) = (ms'.length : Int)) := by omega
    simp [enc_fld, c, c']
theorem F_lalike_eq : ∀ (n : Nat) (a b : J), depth b < n → depth b ≤ 64 → Clean b → size a ≤ 1000000 → size b ≤ 1000000 → F_lalike n [enc a, enc b] = some (.bool (alk a b))
  | 0, _, _, h, _, _, _, _ => absurd h (Nat.not_lt_zero _)
  | n + 1, a, b, h, hd, cb, sa, sb => by
    match a, b, cb with
    | .row xs, .row ys, cb =>
      refine lalike_row n xs ys sa fun x hx y hy => ?_
      have h1 := depth_mem hy
      have h2 := size_mem hx
      have h3 := size_mem hy
      cases cb with
      | row hc => exact F_lalike_eq n x y (by omega) (by omega) (hc y hy) (by omega) (by omega)
    | .fld ms, .fld ms', cb =>
      cases cb with
      | fld nd hc =>
        refine lalike_fld n ms ms' sa sb nd fun x hx y hy => ?_
        have h1 := depth_memf hy
        have h2 := size_memf hx
        have h3 := size_memf hy
        exact F_lalike_eq n x.2 y.2 (by omega) (by omega) (hc y hy) (by omega) (by omega)
    | .row xs, .fld ms, _ => exact lalike_none n _ _ (.inr (.inr (by simp [kd]))) hd
    | .fld xs, .row ms, _ => exact lalike_none n _ _ (.inr (.inr (by simp [kd]))) hd
    | .non, b, _ => exact lalike_none n _ _ (.inl rfl) hd
    | .bl _, b, _ => exact lalike_none n _ _ (.inl rfl) hd
    | .num _ _, b, _ => exact lalike_none n _ _ (.inl rfl) hd
    | .txt _, b, _ => exact lalike_none n _ _ (.inl rfl) hd
    | .row _, .non, _ => exact lalike_none n _ _ (.inr (.inl rfl)) hd
    | .row _, .bl _, _ => exact lalike_none n _ _ (.inr (.inl rfl)) hd
    | .row _, .num _ _, _ => exact lalike_none n _ _ (.inr (.inl rfl)) hd
    | .row _, .txt _, _ => exact lalike_none n _ _ (.inr (.inl rfl)) hd
    | .fld _, .non, _ => exact lalike_none n _ _ (.inr (.inl rfl)) hd
    | .fld _, .bl _, _ => exact lalike_none n _ _ (.inr (.inl rfl)) hd
    | .fld _, .num _ _, _ => exact lalike_none n _ _ (.inr (.inl rfl)) hd
    | .fld _, .txt _, _ => exact lalike_none n _ _ (.inr (.inl rfl)) hd
end Pl

namespace Pl
open PySem DL Pg
theorem named_loop (P : PyData) (n : Nm) : ∀ (ms : List (Nm × J)) (i : Int) (x : Option PyData), match fiN n ms with
    | some k => forL (st1 3) lb_named_1 (ms.map encP) [some P, some (nmD n), some (.int i), x] () = some (.rt (.int (i + k)) ())
    | none => ∃ i' x', forL (st1 3) lb_named_1 (ms.map encP) [some P, some (nmD n), some (.int i), x] () = some (.nx [some P, some (nmD n), some (.int i'), x'] ())
  | [], i, x => ⟨i, x, rfl⟩
  | m :: r, i, x => by
    rw [fiN]
    by_cases h : m.1 = n
    · rw [if_pos h]
      show forL (st1 3) lb_named_1 ((m :: r).map encP) [some P, some (nmD n), some (.int i), x] () = some (.rt (.int (i + ((0 : Nat) : Int))) ())
      rw [List.map_cons, forL_1]
      simp [lb_named_1, h]
    · rw [if_neg h]
      have ih := named_loop P n r (i + 1) (some (encP m))
      have e : forL (st1 3) lb_named_1 ((m :: r).map encP) [some P, some (nmD n), some (.int i), x] () = forL (st1 3) lb_named_1 (r.map encP) [some P, some (nmD n), some (.int (i + 1)), some (encP m)] () := by
        rw [List.map_cons, forL_1]
        simp [lb_named_1, h]
      rw [e]
      cases hf : fiN n r with
      | none =>
        rw [hf] at ih
        exact ih
      | some k =>
        rw [hf] at ih
        show _ = some (Res.rt (.int (i + ((k + 1 : Nat) : Int))) ())
        rw [ih]
        congr 3
        omega
theorem F_named_eq (n : Nm) (ms : List (Nm × J)) : F_named [.tuple (ms.map encP), nmD n] = some (.int (toI (fiN n ms))) := by
  refine runF_rt ?_
  show b_named [some (.tuple (ms.map encP)), some (nmD n), none, none] () = _
  have h := named_loop (.tuple (ms.map encP)) n ms 0 none
  cases hf : fiN n ms with
  | none =>
    rw [hf] at h
    obtain ⟨i', x', h⟩ := h
    simp [b_named, h, toI]
  | some k =>
    rw [hf] at h
    simp [b_named, h, toI]
theorem bools_map {α : Type} (p : α → Bool) : ∀ l : List α, bools (l.map fun x => PyData.bool (p x)) = some (l.map p)
  | [] => rfl
  | x :: r => by
    rw [List.map_cons, List.map_cons]
    show (bools (r.map fun x => PyData.bool (p x))).bind (fun bs => some (p x :: bs)) = _
    rw [bools_map p r]
    rfl
theorem gAll_map {α : Type} (p : α → Bool) (l : List α) : gAll (.list (l.map fun x => PyData.bool (p x))) = some (.bool (l.all p)) := by
  show (bools (l.map fun x => PyData.bool (p x))).bind (fun bs => some (PyData.bool (bs.all id))) = _
  rw [bools_map, Option.bind_some, List.all_map]
  rfl
theorem enc_0 (j : J) (h : isT j = true) : gIx (enc j) (.int 0) = some (.str (hd j).s) := by
  cases j with
  | non => cases h
  | bl b => cases h
  | num n p => rw [enc_num]; simp [hd, Wd.s]
  | txt cs => rw [enc_txt]; simp [hd, Wd.s]
  | row xs => rw [enc_row]; simp [hd, Wd.s]
  | fld ms => rw [enc_fld]; simp [hd, Wd.s]
theorem hd_kd {a b : J} (ha : isT a = true) (hb : isT b = true) (h : hd a ≠ hd b) : kd a = .none ∨ kd b = .none ∨ kd a ≠ kd b := by
  cases a <;> cases b <;> simp_all [isT, hd, kd]
theorem hd_kd2 {a : J} (ha : isT a = true) (h : ¬ (hd a = .row ∨ hd a = .fields)) : kd a = .none := by
  cases a <;> simp_all [isT, hd, kd]
theorem alike_none (n : Nat) (a b : J) (hd1 : depth b ≤ 64) (h : isT a = false ∨ isT b = false ∨ hd a ≠ hd b ∨ ¬ (hd a = .row ∨ hd a = .fields)) : F_alike (n + 1) [enc a, enc b] = some (.bool (alk a b)) := by
  refine runF_rt ?_
  show b_alike (F_alike n) F_named [some (enc a), some (enc b), none, none, none] () = _
  have hkd : kd a = .none ∨ kd b = .none ∨ kd a ≠ kd b := by
    cases ha : isT a with
    | false => left; cases a <;> first | rfl | (simp [isT] at ha)
    | true =>
      cases hb : isT b with
      | false => right; left; cases b <;> first | rfl | (simp [isT] at hb)
      | true =>
        rcases h with h | h | h | h
        · rw [ha] at h; cases h
        · rw [hb] at h; cases h
        · exact hd_kd ha hb h
        · exact .inl (hd_kd2 ha h)
  have he := gEq_enc hkd hd1
  unfold b_alike
  cases ha : isT a with
  | false =>
    refine sSeq_rt ?_
    simp [ha, he]
  | true =>
    have e0 := enc_0 a ha
    cases hb : isT b with
    | false =>
      refine sSeq_rt ?_
      simp [ha, hb, he]
    | true =>
      have e1 := enc_0 b hb
      have e2 := gNe_wd (hd a) (hd b)
      by_cases c : hd a = hd b
      · have c2 : ¬ (hd a = .row ∨ hd a = .fields) := by
          rcases h with h | h | h | h
          · rw [ha] at h; cases h
          · rw [hb] at h; cases h
          · exact absurd c h
          · exact h
        have e3 := gNotIn_wd (hd a)
        have e2' : gNe (.str (hd a).s) (.str (hd b).s) = some (.bool false) := by rw [e2]; simp [c]
        rw [sSeq_nx (D' := [some (enc a), some (enc b), none, none, none]) (s' := ()) (by simp [ha, hb, e0, e1, e2'])]
        refine sSeq_rt ?_
        have c3 : ¬ hd a = .row := fun z => c2 (.inl z)
        have c4 : ¬ hd a = .fields := fun z => c2 (.inr z)
        simp [e0, e3, c3, c4, he]
      · refine sSeq_rt ?_
        simp [ha, hb, e0, e1, e2, c, he]
theorem alike_row (n : Nat) (xs ys : List J) (hs : size (.row xs) ≤ 1000000) (ih : ∀ x ∈ xs, ∀ y ∈ ys, F_alike n [enc x, enc y] = some (.bool (alk x y))) : F_alike (n + 1) [enc (.row xs), enc (.row ys)] = some (.bool (alk (.row xs) (.row ys))) := by
  refine runF_rt ?_
  show b_alike (F_alike n) F_named [some (enc (.row xs)), some (enc (.row ys)), none, none, none] () = _
  have hl := len_row xs
  unfold b_alike
  rw [sSeq_nx (D' := [some (enc (.row xs)), some (enc (.row ys)), none, none, none]) (s' := ()) (by simp [enc_row])]
  rw [sSeq_nx (D' := [some (enc (.row xs)), some (enc (.row ys)), none, none, none]) (s' := ()) (by simp [enc_row])]
  rw [alk_row]
  by_cases c : xs.length = ys.length
  · rw [sSeq_nx (D' := [some (enc (.row xs)), some (enc (.row ys)), none, none, none]) (s' := ()) (by simp [enc_row, c])]
    refine sSeq_rt ?_
    have hr := range1_nat xs.length (by omega)
    have hcomp : compO range1 2 fYes (fCall 2 (F_alike n) (fCons (fBin gIx (fBin gIx (fVar 0) (fC (.int 1))) (fVar 2)) (fCons (fBin gIx (fBin gIx (fVar 1) (fC (.int 1))) (fVar 2)) fNil))) (some (.int (xs.length : Int))) [some (enc (.row xs)), some (enc (.row ys)), none, none, none] () = some (.list ((List.range xs.length).map fun k => PyData.bool (at2 xs ys k))) := by
      refine compO_R hr (by rw [List.length_map, List.length_range]; omega) ?_
      refine compL_map (fun k => PyData.bool (at2 xs ys k)) _ _ _ fun k hk => ?_
      have hk1 : k < xs.length := List.mem_range.mp hk
      have hk2 : k < ys.length := by omega
      have h1 := ih xs[k] (List.getElem_mem hk1) ys[k] (List.getElem_mem hk2)
      have h2 : at2 xs ys k = alk xs[k] ys[k] := by
        unfold at2
        rw [List.getElem?_eq_getElem hk1, List.getElem?_eq_getElem hk2]
      simp [enc_row, atI_nat, hk1, hk2, h1, h2]
    rw [enc_row, enc_row] at hcomp
    rw [decide_eq_true c, Bool.true_and]
    simp [enc_row, hcomp, gAll_map, all_zip xs ys c]
  · refine sSeq_rt ?_
    have c' : ¬ ((xs.length : Int) = (ys.length : Int)) := by omega
    simp [enc_row, c, c']
theorem alike_fld (n : Nat) (ms ms' : List (Nm × J)) (ih : ∀ x ∈ ms, ∀ y ∈ ms', F_alike n [enc x.2, enc y.2] = some (.bool (alk x.2 y.2))) : F_alike (n + 1) [enc (.fld ms), enc (.fld ms')] = some (.bool (alk (.fld ms) (.fld ms'))) := by
  refine runF_rt ?_
  show b_alike (F_alike n) F_named [some (enc (.fld ms)), some (enc (.fld ms')), none, none, none] () = _
  unfold b_alike
  rw [sSeq_nx (D' := [some (enc (.fld ms)), some (enc (.fld ms')), none, none, none]) (s' := ()) (by simp [enc_fld])]
  rw [sSeq_nx (D' := [some (enc (.fld ms)), some (enc (.fld ms')), none, none, none]) (s' := ()) (by simp [enc_fld])]
  rw [alk_fld]
  by_cases c : ms.length = ms'.length
  · rw [sSeq_nx (D' := [some (enc (.fld ms)), some (enc (.fld ms')), none, none, none]) (s' := ()) (by simp [enc_fld, c])]
    rw [sSeq_nx (D' := [some (enc (.fld ms)), some (enc (.fld ms')), none, none, none]) (s' := ()) (by simp [enc_fld])]
    have hloop := forL_find (S := Unit) (st := st1 3) (b := lb_alike_1 (F_alike n) F_named) (g := encP) (fun m => if alkM ms' m = true then none else some (PyData.bool false))
      (fun D _ => ∃ o o4, D = [some (enc (.fld ms)), some (enc (.fld ms')), none, o, o4]) ms [some (enc (.fld ms)), some (enc (.fld ms')), none, none, none] () (by
        rintro m hm D s ⟨o, o4, rfl⟩
        refine ⟨_, rfl, ?_⟩
        have hn := F_named_eq m.1 ms'
        unfold alkM lk
        cases hq : fiN m.1 ms' with
        | none =>
          rw [hq] at hn
          refine ⟨(), ?_⟩
          simp [lb_alike_1, enc_fld, hn, toI]
        | some k =>
          rw [hq] at hn
          obtain ⟨m', h1, h2⟩ := fiN_lt hq
          have hk : k < ms'.length := (List.getElem?_eq_some_iff.mp h1).1
          have h3 : ms'[k] = m' := (List.getElem?_eq_some_iff.mp h1).2
          have h4 := ih m hm m' (by rw [← h3]; exact List.getElem_mem hk)
          rw [Option.bind_some, h1, Option.map_some]
          have h0 : ¬ ((k : Int) < 0) := by omega
          by_cases hz : alk m.2 m'.2 = true
          · rw [hz] at h4
            simp only [hz, if_true]
            refine ⟨_, (), ?_, ⟨some (encP m), some (.int k), rfl⟩⟩
            simp [lb_alike_1, enc_fld, hn, toI, h0, atI_nat, hk, h3, h4]
          · rw [Bool.eq_false_iff.mpr hz] at h4
            simp only [hz, if_false]
            refine ⟨(), ?_⟩
            simp [lb_alike_1, enc_fld, hn, toI, h0, atI_nat, hk, h3, h4]) ⟨none, none, rfl⟩
    rw [findSome_all] at hloop
    have hfor : sFor itemsT (st1 3) (fBin gIx (fVar 0) (fC (.int 1))) (lb_alike_1 (F_alike n) F_named) [some (enc (.fld ms)), some (enc (.fld ms')), none, none, none] () = forL (st1 3) (lb_alike_1 (F_alike n) F_named) (ms.map encP) [some (enc (.fld ms)), some (enc (.fld ms')), none, none, none] () := by
      simp [enc_fld]
    cases hq : ms.all (alkM ms') with
    | true =>
      rw [hq, if_pos rfl] at hloop
      obtain ⟨D', s', h1, o, o4, rfl⟩ := hloop
      rw [sSeq_nx (hfor.trans h1)]
      simp [c]
    | false =>
      rw [hq, if_neg Bool.false_ne_true] at hloop
      obtain ⟨s', h1⟩ := hloop
      rw [sSeq_rt (hfor.trans h1)]
      simp [c]
  · refine sSeq_rt ?_
    have c' : ¬ ((ms.length : Int) = (ms'.length : Int)) := by omega
    simp [enc_fld, c, c']
theorem F_alike_eq : ∀ (n : Nat) (a b : J), depth b < n → depth b ≤ 64 → size a ≤ 1000000 → F_alike n [enc a, enc b] = some (.bool (alk a b))
  | 0, _, _, h, _, _ => absurd h (Nat.not_lt_zero _)
  | n + 1, a, b, h, hd, sa => by
    match a, b with
    | .row xs, .row ys =>
      refine alike_row n xs ys sa fun x hx y hy => ?_
      have h1 := depth_mem hy
      have h2 := size_mem hx
      exact F_alike_eq n x y (by omega) (by omega) (by omega)
    | .fld ms, .fld ms' =>
      refine alike_fld n ms ms' fun x hx y hy => ?_
      have h1 := depth_memf hy
      have h2 := size_memf hx
      exact F_alike_eq n x.2 y.2 (by omega) (by omega) (by omega)
    | .non, b => exact alike_none n _ _ hd (.inl rfl)
    | .bl _, b => exact alike_none n _ _ hd (.inl rfl)
    | .num _ _, b => exact alike_none n _ _ hd (.inr (.inr (.inr (by simp [Pl.hd]))))
    | .txt _, b => exact alike_none n _ _ hd (.inr (.inr (.inr (by simp [Pl.hd]))))
    | .row _, .non => exact alike_none n _ _ hd (.inr (.inl rfl))
    | .row _, .bl _ => exact alike_none n _ _ hd (.inr (.inl rfl))
    | .row _, .num _ _ => exact alike_none n _ _ hd (.inr (.inr (.inl (by simp [Pl.hd]))))
    | .row _, .txt _ => exact alike_none n _ _ hd (.inr (.inr (.inl (by simp [Pl.hd]))))
    | .row _, .fld _ => exact alike_none n _ _ hd (.inr (.inr (.inl (by simp [Pl.hd]))))
    | .fld _, .non => exact alike_none n _ _ hd (.inr (.inl rfl))
    | .fld _, .bl _ => exact alike_none n _ _ hd (.inr (.inl rfl))
    | .fld _, .num _ _ => exact alike_none n _ _ hd (.inr (.inr (.inl (by simp [Pl.hd]))))
    | .fld _, .txt _ => exact alike_none n _ _ hd (.inr (.inr (.inl (by simp [Pl.hd]))))
    | .fld _, .row _ => exact alike_none n _ _ hd (.inr (.inr (.inl (by simp [Pl.hd]))))
end Pl

namespace Pl
open PySem DL Pg
/-! ### sizes, depths, cleanness of changed values -/
theorem sum_set {l : List Nat} {k a b : Nat} (h : l[k]? = some b) : (l.set k a).sum + b = l.sum + a := by
  induction l generalizing k with
  | nil => simp at h
  | cons x r ih =>
    cases k with
    | zero =>
      have : x = b := by simpa using h
      subst this
      rw [List.set_cons_zero, List.sum_cons, List.sum_cons]; omega
    | succ k =>
      have := ih (k := k) (by simpa using h)
      rw [List.set_cons_succ, List.sum_cons, List.sum_cons]; omega
theorem sum_erase {l : List Nat} {k b : Nat} (h : l[k]? = some b) : (l.eraseIdx k).sum + b = l.sum := by
  induction l generalizing k with
  | nil => simp at h
  | cons x r ih =>
    cases k with
    | zero =>
      have : x = b := by simpa using h
      subst this
      rw [List.eraseIdx_cons_zero, List.sum_cons]; omega
    | succ k =>
      have := ih (k := k) (by simpa using h)
      rw [List.eraseIdx_cons_succ, List.sum_cons, List.sum_cons]; omega
theorem maxL_mono {l : List Nat} {n : Nat} : maxL l ≤ n ↔ ∀ a ∈ l, a ≤ n := ⟨fun h a ha => Nat.le_trans (maxL_le ha) h, maxL_lub⟩
theorem depth_row_le {xs : List J} {n : Nat} : depth (.row xs) ≤ n + 1 ↔ ∀ x ∈ xs, depth x ≤ n := by
  rw [depth_row]
  constructor
  · intro h x hx
    have := maxL_le (List.mem_map_of_mem (f := depth) hx)
    omega
  · intro h
    have := maxL_lub (l := xs.map depth) (n := n) fun a ha => by
      obtain ⟨x, hx, rfl⟩ := List.mem_map.mp ha
      exact h x hx
    omega
theorem depth_fld_le {ms : List (Nm × J)} {n : Nat} : depth (.fld ms) ≤ n + 1 ↔ ∀ m ∈ ms, depth m.2 ≤ n := by
  rw [depth_fld]
  constructor
  · intro h x hx
    have := maxL_le (List.mem_map_of_mem (f := fun m : Nm × J => depth m.2) hx)
    omega
  · intro h
    have := maxL_lub (l := ms.map fun m => depth m.2) (n := n) fun a ha => by
      obtain ⟨x, hx, rfl⟩ := List.mem_map.mp ha
      exact h x hx
    omega
theorem mem_set_or {α : Type} {l : List α} {k : Nat} {a x : α} (h : x ∈ l.set k a) : x = a ∨ x ∈ l := by
  rcases List.mem_or_eq_of_mem_set h with h | h
  · exact .inr h
  · exact .inl h
/-- a child and its place -/
theorem child_at {j c : J} {n : Nm} (h : child j n = some c) : (∃ xs k, j = .row xs ∧ ixO (.row xs) n = some k ∧ xs[k]? = some c) ∨ (∃ ms k, j = .fld ms ∧ fiN n ms = some k ∧ ms[k]? = some (n, c)) := by
  cases j with
  | row xs =>
    rw [child_row] at h
    obtain ⟨k, hk, h⟩ := bind_some h
    exact .inl ⟨xs, k, rfl, hk, h⟩
  | fld ms =>
    rw [child_fld] at h
    obtain ⟨k, hk, h⟩ := bind_some h
    obtain ⟨m, hm, e⟩ := Option.map_eq_some_iff.mp h
    obtain ⟨m', h1, h2⟩ := fiN_lt hk
    rw [hm] at h1
    have h3 : m = m' := Option.some.inj h1
    subst h3
    refine .inr ⟨ms, k, rfl, hk, ?_⟩
    rw [hm]
    cases m
    simp at h2 e
    rw [h2, e]
  | _ => cases h
theorem wt_size {j c v : J} {n : Nm} (h : child j n = some c) : size (wt j n v) + size c = size j + size v := by
  rcases child_at h with ⟨xs, k, rfl, hk, hc⟩ | ⟨ms, k, rfl, hk, hc⟩
  · rw [wt_row hk, size_row, size_row, List.map_set]
    have := sum_set (l := xs.map size) (k := k) (a := size v) (b := size c) (by rw [List.getElem?_map, hc]; rfl)
    omega
  · rw [wt_fld hk, size_fld, size_fld, List.map_set]
    have := sum_set (l := ms.map fun m => size m.2) (k := k) (a := size (n, v).2) (b := size c) (by rw [List.getElem?_map, hc]; rfl)
    have e : size (n, v).2 = size v := rfl
    omega
theorem wt_depth {j c v : J} {n : Nm} {N : Nat} (h : child j n = some c) (h1 : depth j ≤ N + 1) (h2 : depth v ≤ N) : depth (wt j n v) ≤ N + 1 := by
  rcases child_at h with ⟨xs, k, rfl, hk, hc⟩ | ⟨ms, k, rfl, hk, hc⟩
  · rw [wt_row hk]
    rw [depth_row_le] at h1 ⊢
    intro x hx
    rcases mem_set_or hx with rfl | hx
    · exact h2
    · exact h1 x hx
  · rw [wt_fld hk]
    rw [depth_fld_le] at h1 ⊢
    intro x hx
    rcases mem_set_or hx with rfl | hx
    · exact h2
    · exact h1 x hx
theorem map_set_same {ms : List (Nm × J)} {k : Nat} {n : Nm} {c v : J} (h : ms[k]? = some (n, c)) : (ms.set k (n, v)).map (·.1) = ms.map (·.1) := by
  rw [List.map_set]
  have hk := (List.getElem?_eq_some_iff.mp h).1
  have e : (ms.map (·.1))[k]'(by rw [List.length_map]; exact hk) = n := by
    rw [List.getElem_map, (List.getElem?_eq_some_iff.mp h).2]
  have := List.set_getElem_self (as := ms.map (·.1)) (i := k) (by rw [List.length_map]; exact hk)
  rw [e] at this
  exact this
theorem wt_clean {j c v : J} {n : Nm} (h : child j n = some c) (h1 : Clean j) (h2 : Clean v) : Clean (wt j n v) := by
  rcases child_at h with ⟨xs, k, rfl, hk, hc⟩ | ⟨ms, k, rfl, hk, hc⟩
  · rw [wt_row hk]
    cases h1 with
    | row hx =>
      refine .row fun x hm => ?_
      rcases mem_set_or hm with rfl | hm
      · exact h2
      · exact hx x hm
  · rw [wt_fld hk]
    cases h1 with
    | fld nd hx =>
      refine .fld (by rw [map_set_same hc]; exact nd) fun x hm => ?_
      rcases mem_set_or hm with rfl | hm
      · exact h2
      · exact hx x hm
theorem putF_none {n : Nm} {v : J} {ms : List (Nm × J)} (h : fiN n ms = none) : putF n v ms = ms ++ [(n, v)] := by unfold putF; rw [h]
theorem putF_some {n : Nm} {v : J} {ms : List (Nm × J)} {k : Nat} (h : fiN n ms = some k) : putF n v ms = ms.set k (n, v) := by unfold putF; rw [h]
theorem fiN_get {n : Nm} {ms : List (Nm × J)} {k : Nat} (h : fiN n ms = some k) : ∃ c, ms[k]? = some (n, c) := by
  obtain ⟨m, h1, h2⟩ := fiN_lt h
  refine ⟨m.2, ?_⟩
  rw [h1]
  cases m
  simp at h2
  rw [h2]
/-- what a grown value is, one part down -/
theorem grow1_cases {j v j' : J} {n : Nm} (h : grow1 j n v = some j') : (∃ ms, j = .fld ms ∧ j' = .fld (putF n v ms)) ∨ (∃ xs k, j = .row xs ∧ k ≤ xs.length ∧ (k : Int) = rowAt n xs ∧ j' = .row (xs.take k ++ [v] ++ xs.drop k)) := by
  cases j with
  | fld ms =>
    have : J.fld (putF n v ms) = j' := Option.some.inj h
    exact .inl ⟨ms, rfl, this.symm⟩
  | row xs =>
    have h' : (insAt (rowAt n xs) v xs).map J.row = some j' := h
    obtain ⟨ys, hy, e⟩ := Option.map_eq_some_iff.mp h'
    unfold insAt at hy
    split at hy
    · rename_i c
      refine .inr ⟨xs, (rowAt n xs).toNat, rfl, by omega, by omega, ?_⟩
      rw [← e, ← Option.some.inj hy]
    · cases hy
  | _ => cases h
theorem sum_split (l : List Nat) (k a : Nat) : (l.take k ++ [a] ++ l.drop k).sum = l.sum + a := by
  have h := congrArg List.sum (List.take_append_drop k l)
  rw [List.sum_append] at h
  rw [List.sum_append, List.sum_append, List.sum_singleton]
  omega
theorem mem_split {α : Type} {l : List α} {k : Nat} {a x : α} (h : x ∈ l.take k ++ [a] ++ l.drop k) : x = a ∨ x ∈ l := by
  rcases List.mem_append.mp h with h | h
  · rcases List.mem_append.mp h with h | h
    · exact .inr (List.mem_of_mem_take h)
    · exact .inl (by simpa using h)
  · exact .inr (List.mem_of_mem_drop h)
theorem mem_putF {n : Nm} {v : J} {ms : List (Nm × J)} {m : Nm × J} (h : m ∈ putF n v ms) : m = (n, v) ∨ m ∈ ms := by
  cases hf : fiN n ms with
  | none =>
    rw [putF_none hf] at h
    rcases List.mem_append.mp h with h | h
    · exact .inr h
    · exact .inl (by simpa using h)
  | some k =>
    rw [putF_some hf] at h
    exact mem_set_or h
theorem grow1_size {j v j' : J} {n : Nm} (h : grow1 j n v = some j') : size j' ≤ size j + size v := by
  rcases grow1_cases h with ⟨ms, rfl, rfl⟩ | ⟨xs, k, rfl, hk, _, rfl⟩
  · rw [size_fld, size_fld]
    cases hf : fiN n ms with
    | none =>
      rw [putF_none hf, List.map_append, List.sum_append]
      simp
      omega
    | some k =>
      rw [putF_some hf, List.map_set]
      obtain ⟨c, hc⟩ := fiN_get hf
      have := sum_set (l := ms.map fun m => size m.2) (k := k) (a := size v) (b := size c) (by rw [List.getElem?_map, hc]; rfl)
      simp only at this ⊢
      omega
  · rw [size_row, size_row, List.map_append, List.map_append, List.map_take, List.map_drop]
    have := sum_split (xs.map size) k (size v)
    simp only [List.map_cons, List.map_nil]
    omega
theorem grow1_depth {j v j' : J} {n : Nm} {N : Nat} (h : grow1 j n v = some j') (h1 : depth j ≤ N + 1) (h2 : depth v ≤ N) : depth j' ≤ N + 1 := by
  rcases grow1_cases h with ⟨ms, rfl, rfl⟩ | ⟨xs, k, rfl, hk, _, rfl⟩
  · rw [depth_fld_le] at h1 ⊢
    intro m hm
    rcases mem_putF hm with rfl | hm
    · exact h2
    · exact h1 m hm
  · rw [depth_row_le] at h1 ⊢
    intro m hm
    rcases mem_split hm with rfl | hm
    · exact h2
    · exact h1 m hm
theorem grow1_clean {j v j' : J} {n : Nm} (h : grow1 j n v = some j') (h1 : Clean j) (h2 : Clean v) : Clean j' := by
  rcases grow1_cases h with ⟨ms, rfl, rfl⟩ | ⟨xs, k, rfl, hk, _, rfl⟩
  · cases h1 with
    | fld nd hx =>
      refine .fld ?_ fun m hm => ?_
      · cases hf : fiN n ms with
        | none =>
          rw [putF_none hf, List.map_append, List.nodup_append]
          refine ⟨nd, by simp, fun a ha b hb => ?_⟩
          have : b = n := by simpa using hb
          subst this
          obtain ⟨m, hm, rfl⟩ := List.mem_map.mp ha
          exact fiN_none hf m hm
        | some k =>
          obtain ⟨c, hc⟩ := fiN_get hf
          rw [putF_some hf, map_set_same hc]
          exact nd
      · rcases mem_putF hm with rfl | hm
        · exact h2
        · exact hx m hm
  · cases h1 with
    | row hx =>
      refine .row fun m hm => ?_
      rcases mem_split hm with rfl | hm
      · exact h2
      · exact hx m hm
theorem del1_size {j c : J} {n : Nm} (h : child j n = some c) : size (del1 j n) ≤ size j := by
  rcases child_at h with ⟨xs, k, rfl, hk, hc⟩ | ⟨ms, k, rfl, hk, hc⟩
  · rw [del1_row hk, size_row, size_row, ← map_erase]
    have := sum_erase (l := xs.map size) (k := k) (b := size c) (by rw [List.getElem?_map, hc]; rfl)
    omega
  · rw [del1_fld hk, size_fld, size_fld, ← map_erase]
    have := sum_erase (l := ms.map fun m => size m.2) (k := k) (b := size c) (by rw [List.getElem?_map, hc]; rfl)
    omega
theorem del1_depth {j c : J} {n : Nm} {N : Nat} (h : child j n = some c) (h1 : depth j ≤ N + 1) : depth (del1 j n) ≤ N + 1 := by
  rcases child_at h with ⟨xs, k, rfl, hk, hc⟩ | ⟨ms, k, rfl, hk, hc⟩
  · rw [del1_row hk]
    rw [depth_row_le] at h1 ⊢
    exact fun x hx => h1 x (List.mem_of_mem_eraseIdx hx)
  · rw [del1_fld hk]
    rw [depth_fld_le] at h1 ⊢
    exact fun x hx => h1 x (List.mem_of_mem_eraseIdx hx)
theorem del1_clean {j c : J} {n : Nm} (h : child j n = some c) (h1 : Clean j) : Clean (del1 j n) := by
  rcases child_at h with ⟨xs, k, rfl, hk, hc⟩ | ⟨ms, k, rfl, hk, hc⟩
  · rw [del1_row hk]
    cases h1 with
    | row hx => exact .row fun x hm => hx x (List.mem_of_mem_eraseIdx hm)
  · rw [del1_fld hk]
    cases h1 with
    | fld nd hx => exact .fld (by rw [← map_erase]; exact nd.sublist (List.eraseIdx_sublist ..)) fun x hm => hx x (List.mem_of_mem_eraseIdx hm)
/-! along a path -/
theorem gt_size : ∀ {ns : List Nm} {j c : J}, gt j ns = some c → size c ≤ size j
  | [], j, c, h => by have : j = c := Option.some.inj h; rw [this]; exact Nat.le_refl _
  | n :: r, j, c, h => by
    rw [gt_cons] at h
    obtain ⟨d, hd, h⟩ := bind_some h
    have := gt_size h
    have := child_size hd
    omega
theorem gt_depth : ∀ {ns : List Nm} {j c : J}, gt j ns = some c → depth c + ns.length ≤ depth j
  | [], j, c, h => by have : j = c := Option.some.inj h; rw [this]; exact Nat.le_refl _
  | n :: r, j, c, h => by
    rw [gt_cons] at h
    obtain ⟨d, hd, h⟩ := bind_some h
    have := gt_depth h
    have := child_depth hd
    rw [List.length_cons]
    omega
theorem gt_clean : ∀ {ns : List Nm} {j c : J}, Clean j → gt j ns = some c → Clean c
  | [], j, c, hj, h => by have : j = c := Option.some.inj h; rw [← this]; exact hj
  | n :: r, j, c, hj, h => by
    rw [gt_cons] at h
    obtain ⟨d, hd, h⟩ := bind_some h
    exact gt_clean (child_clean hj hd) h
theorem grow_facts : ∀ {ns : List Nm} {j v j' : J}, grow j ns v = some j' → size j' ≤ size j + size v ∧ depth j' ≤ max (depth j) (ns.length + depth v) ∧ (Clean j → Clean v → Clean j')
  | [], j, v, j', h => by
    have : v = j' := Option.some.inj h
    subst this
    exact ⟨by omega, by simp; omega, fun _ h => h⟩
  | [n], j, v, j', h => by
    have h' : grow1 j n v = some j' := h
    refine ⟨grow1_size h', ?_, fun a b => grow1_clean h' a b⟩
    have := grow1_depth (N := max (depth j - 1) (depth v)) h' (by omega) (by omega)
    rcases grow1_cases h' with ⟨ms, rfl, _⟩ | ⟨xs, k, rfl, _⟩
    · have : 1 ≤ depth (.fld ms) := by rw [depth_fld]; omega
      simp only [List.length_cons, List.length_nil]
      omega
    · have : 1 ≤ depth (.row xs) := by rw [depth_row]; omega
      simp only [List.length_cons, List.length_nil]
      omega
  | n :: m :: r, j, v, j', h => by
    have h' : ((child j n).bind fun c => (grow c (m :: r) v).map fun c' => wt j n c') = some j' := h
    obtain ⟨c, hc, h'⟩ := bind_some h'
    obtain ⟨c', hc', e⟩ := Option.map_eq_some_iff.mp h'
    obtain ⟨i1, i2, i3⟩ := grow_facts hc'
    subst e
    have s1 := wt_size (v := c') hc
    have d0 := child_depth hc
    have d1 := wt_depth (v := c') (N := max (depth j - 1) (depth c')) hc (by omega) (by omega)
    refine ⟨by omega, ?_, fun a b => wt_clean hc a (i3 (child_clean a hc) b)⟩
    rw [List.length_cons]
    omega
theorem wo_facts : ∀ {ns : List Nm} {j j' : J}, wo j ns = some j' → size j' ≤ size j ∧ depth j' ≤ depth j ∧ (Clean j → Clean j')
  | [n], j, j', h => by
    have h' : ((child j n).map fun _ => del1 j n) = some j' := h
    obtain ⟨c, hc, e⟩ := Option.map_eq_some_iff.mp h'
    subst e
    have d0 := child_depth hc
    have d1 := del1_depth (N := depth j - 1) hc (by omega)
    exact ⟨del1_size hc, by omega, fun a => del1_clean hc a⟩
  | n :: m :: r, j, j', h => by
    have h' : ((child j n).bind fun c => (wo c (m :: r)).map fun c' => wt j n c') = some j' := h
    obtain ⟨c, hc, h'⟩ := bind_some h'
    obtain ⟨c', hc', e⟩ := Option.map_eq_some_iff.mp h'
    obtain ⟨i1, i2, i3⟩ := wo_facts hc'
    subst e
    have s1 := wt_size (v := c') hc
    have d0 := child_depth hc
    have d1 := wt_depth (v := c') (N := depth j - 1) hc (by omega) (by omega)
    exact ⟨by omega, by omega, fun a => wt_clean hc a (i3 (child_clean a hc))⟩
theorem rp_facts : ∀ {ns : List Nm} {j v j' : J}, rp j ns v = some j' → size j' ≤ size j + size v ∧ depth j' ≤ max (depth j) (ns.length + depth v) ∧ (Clean j → Clean v → Clean j')
  | [], j, v, j', h => by
    have : v = j' := Option.some.inj h
    subst this
    exact ⟨by omega, by simp; omega, fun _ h => h⟩
  | n :: r, j, v, j', h => by
    have h' : ((child j n).bind fun c => (rp c r v).map fun c' => wt j n c') = some j' := h
    obtain ⟨c, hc, h'⟩ := bind_some h'
    obtain ⟨c', hc', e⟩ := Option.map_eq_some_iff.mp h'
    obtain ⟨i1, i2, i3⟩ := rp_facts hc'
    subst e
    have s1 := wt_size (v := c') hc
    have d0 := child_depth hc
    have d1 := wt_depth (v := c') (N := max (depth j - 1) (depth c')) hc (by omega) (by omega)
    refine ⟨by omega, ?_, fun a b => wt_clean hc a (i3 (child_clean a hc) b)⟩
    rw [List.length_cons]
    omega
end Pl

namespace Pl
open PySem DL Pg
/-! ### deeds -/
inductive Dd where
  | add (p : List Nm) (v : J) | rem (p : List Nm) | rep (p : List Nm) (v : J) | mv (p g : List Nm) | cp (p g : List Nm) | tst (p : List Nm) (v : J)
def encD : Dd → PyData
  | .add p v => .tuple [.str "add", pathD p, enc v]
  | .rem p => .tuple [.str "remove", pathD p]
  | .rep p v => .tuple [.str "replace", pathD p, enc v]
  | .mv p g => .tuple [.str "move", pathD p, pathD g]
  | .cp p g => .tuple [.str "copy", pathD p, pathD g]
  | .tst p v => .tuple [.str "test", pathD p, enc v]
def dn : J → Dd → Option J
  | j, .add p v => grow j p v
  | j, .rem p => wo j p
  | j, .rep p v => rp j p v
  | j, .tst p v => (gt j p).bind fun c => if alk c v = true then some j else none
  | j, .cp p g => (gt j p).bind fun c => grow j g c
  | j, .mv p g => (gt j p).bind fun c => if p.length < g.length ∧ g.take p.length = p then none else (wo j p).bind fun l => grow l g c
/-- a deed that the walk bears -/
def okD : Dd → Prop
  | .add p v => p.length < 70
  | .rem p => p.length < 70
  | .rep p v => p.length < 70
  | .mv p g => p.length < 70 ∧ g.length < 70
  | .cp p g => p.length < 70 ∧ g.length < 70
  | .tst p v => p.length < 70 ∧ Clean v ∧ depth v ≤ 64 ∧ size v ≤ 1000000
theorem cl_path (p : List Nm) : (pathD p).canLay0 = true := by
  unfold pathD
  rw [PyData.canLay0]
  refine cl_all fun x hx => ?_
  obtain ⟨n, _, rfl⟩ := List.mem_map.mp hx
  exact cl_nm n
theorem dp_path (p : List Nm) : (pathD p).depth ≤ 2 := by
  unfold pathD
  refine dp_tup (n := 1) fun x hx => ?_
  obtain ⟨n, _, rfl⟩ := List.mem_map.mp hx
  rw [dp_nm]
  exact Nat.le_refl _
theorem eqv_nms : ∀ a b : List Nm, PyData.eqvAll (a.map nmD) (b.map nmD) = decide (a = b)
  | [], [] => by rw [List.map_nil, PyData.eqvAll]; rfl
  | [], _ :: _ => by rw [List.map_nil, List.map_cons, PyData.eqvAll]; rfl
  | _ :: _, [] => by rw [List.map_nil, List.map_cons, PyData.eqvAll]; rfl
  | x :: a, y :: b => by
    have e : PyData.eqv (nmD x) (nmD y) = decide (x = y) := by
      unfold nmD
      rw [PyData.eqv, eqv_ints]
    rw [List.map_cons, List.map_cons, PyData.eqvAll, e, eqv_nms a b]
    by_cases h : x = y
    · subst h; simp
    · simp [h]
theorem gEq_path (a b : List Nm) : gEq (pathD a) (pathD b) = some (.bool (decide (a = b))) := by
  rw [gEq_of (cl_path a) (cl_path b) (Nat.le_trans (Nat.min_le_left _ _) (Nat.le_trans (dp_path a) (by decide)))]
  unfold pathD
  rw [PyData.eqv, eqv_nms]
theorem gTru_optD (o : Option J) : gTru (optD o) = some o.isSome := by
  cases o with
  | none => rfl
  | some j => rfl
abbrev bD := b_done (F_grown 70) (F_without 70) (F_replaced 70) F_get (F_lalike 70)
theorem done_add (j v : J) (p : List Nm) (hp : p.length < 70) (hs : size j ≤ 500000) : F_done [enc j, encD (.add p v)] = some (optD (dn j (.add p v))) := by
  refine runF_rt ?_
  show bD [some (enc j), some (.tuple [.str "add", pathD p, enc v]), none, none] () = _
  have h := F_grown_eq 70 p j v hp (by omega)
  unfold bD b_done
  refine sSeq_rt ?_
  simp [h, dn]
theorem done_rem (j : J) (p : List Nm) (hp : p.length < 70) (hs : size j ≤ 500000) : F_done [enc j, encD (.rem p)] = some (optD (dn j (.rem p))) := by
  refine runF_rt ?_
  show bD [some (enc j), some (.tuple [.str "remove", pathD p]), none, none] () = _
  have h := F_without_eq 70 p j hp (by omega)
  unfold bD b_done
  rw [sSeq_nx (D' := [some (enc j), some (.tuple [.str "remove", pathD p]), none, none]) (s' := ()) (by simp)]
  refine sSeq_rt ?_
  simp [h, dn]
theorem done_rep (j v : J) (p : List Nm) (hp : p.length < 70) (hs : size j ≤ 500000) : F_done [enc j, encD (.rep p v)] = some (optD (dn j (.rep p v))) := by
  refine runF_rt ?_
  show bD [some (enc j), some (.tuple [.str "replace", pathD p, enc v]), none, none] () = _
  have h := F_replaced_eq 70 p j v hp (by omega)
  unfold bD b_done
  rw [sSeq_nx (D' := [some (enc j), some (.tuple [.str "replace", pathD p, enc v]), none, none]) (s' := ()) (by simp)]
  rw [sSeq_nx (D' := [some (enc j), some (.tuple [.str "replace", pathD p, enc v]), none, none]) (s' := ()) (by simp)]
  refine sSeq_rt ?_
  simp [h, dn]
theorem done_tst (j v : J) (p : List Nm) (hs : size j ≤ 500000) (cv : Clean v) (hd : depth v ≤ 64) (sv : size v ≤ 1000000) : F_done [enc j, encD (.tst p v)] = some (optD (dn j (.tst p v))) := by
  refine runF_rt ?_
  show bD [some (enc j), some (.tuple [.str "test", pathD p, enc v]), none, none] () = _
  have h := F_get_eq j p (by omega)
  unfold bD b_done
  rw [sSeq_nx (D' := [some (enc j), some (.tuple [.str "test", pathD p, enc v]), none, none]) (s' := ()) (by simp)]
  rw [sSeq_nx (D' := [some (enc j), some (.tuple [.str "test", pathD p, enc v]), none, none]) (s' := ()) (by simp)]
  rw [sSeq_nx (D' := [some (enc j), some (.tuple [.str "test", pathD p, enc v]), none, none]) (s' := ()) (by simp)]
  rw [sSeq_nx (D' := [some (enc j), some (.tuple [.str "test", pathD p, enc v]), some (optD (gt j p)), none]) (s' := ()) (by simp [h])]
  show _ = some (Res.rt (optD ((gt j p).bind fun c => if alk c v = true then some j else none)) ())
  cases hg : gt j p with
  | none =>
    refine sSeq_rt ?_
    simp
  | some c =>
    rw [sSeq_nx (D' := [some (enc j), some (.tuple [.str "test", pathD p, enc v]), some (optD (some c)), none]) (s' := ()) (by simp)]
    refine sSeq_rt ?_
    have hc := gt_size hg
    have hl := F_lalike_eq 70 c v (by omega) hd cv (by omega) sv
    cases ha : alk c v with
    | true => rw [ha] at hl; simp [hl, ha]
    | false => rw [ha] at hl; simp [hl, ha]
theorem done_cp (j : J) (p g : List Nm) (hs : size j ≤ 500000) (hg : g.length < 70) : F_done [enc j, encD (.cp p g)] = some (optD (dn j (.cp p g))) := by
  refine runF_rt ?_
  show bD [some (enc j), some (.tuple [.str "copy", pathD p, pathD g]), none, none] () = _
  have h := F_get_eq j p (by omega)
  unfold bD b_done
  rw [sSeq_nx (D' := [some (enc j), some (.tuple [.str "copy", pathD p, pathD g]), none, none]) (s' := ()) (by simp)]
  rw [sSeq_nx (D' := [some (enc j), some (.tuple [.str "copy", pathD p, pathD g]), none, none]) (s' := ()) (by simp)]
  rw [sSeq_nx (D' := [some (enc j), some (.tuple [.str "copy", pathD p, pathD g]), none, none]) (s' := ()) (by simp)]
  rw [sSeq_nx (D' := [some (enc j), some (.tuple [.str "copy", pathD p, pathD g]), some (optD (gt j p)), none]) (s' := ()) (by simp [h])]
  show _ = some (Res.rt (optD ((gt j p).bind fun c => grow j g c)) ())
  cases hq : gt j p with
  | none =>
    refine sSeq_rt ?_
    simp
  | some c =>
    rw [sSeq_nx (D' := [some (enc j), some (.tuple [.str "copy", pathD p, pathD g]), some (optD (some c)), none]) (s' := ()) (by simp)]
    rw [sSeq_nx (D' := [some (enc j), some (.tuple [.str "copy", pathD p, pathD g]), some (optD (some c)), none]) (s' := ()) (by simp)]
    refine sSeq_rt ?_
    have h2 := F_grown_eq 70 g j c hg (by omega)
    simp [h2]
theorem done_mv (j : J) (p g : List Nm) (hs : size j ≤ 500000) (hp : p.length < 70) (hg : g.length < 70) : F_done [enc j, encD (.mv p g)] = some (optD (dn j (.mv p g))) := by
  refine runF_rt ?_
  show bD [some (enc j), some (.tuple [.str "move", pathD p, pathD g]), none, none] () = _
  have h := F_get_eq j p (by omega)
  unfold bD b_done
  rw [sSeq_nx (D' := [some (enc j), some (.tuple [.str "move", pathD p, pathD g]), none, none]) (s' := ()) (by simp)]
  rw [sSeq_nx (D' := [some (enc j), some (.tuple [.str "move", pathD p, pathD g]), none, none]) (s' := ()) (by simp)]
  rw [sSeq_nx (D' := [some (enc j), some (.tuple [.str "move", pathD p, pathD g]), none, none]) (s' := ()) (by simp)]
  rw [sSeq_nx (D' := [some (enc j), some (.tuple [.str "move", pathD p, pathD g]), some (optD (gt j p)), none]) (s' := ()) (by simp [h])]
  show _ = some (Res.rt (optD ((gt j p).bind fun c => if p.length < g.length ∧ g.take p.length = p then none else (wo j p).bind fun l => grow l g c)) ())
  cases hq : gt j p with
  | none =>
    refine sSeq_rt ?_
    simp
  | some c =>
    rw [sSeq_nx (D' := [some (enc j), some (.tuple [.str "move", pathD p, pathD g]), some (optD (some c)), none]) (s' := ()) (by simp)]
    rw [sSeq_nx (D' := [some (enc j), some (.tuple [.str "move", pathD p, pathD g]), some (optD (some c)), none]) (s' := ()) (by simp)]
    rw [sSeq_nx (D' := [some (enc j), some (.tuple [.str "move", pathD p, pathD g]), some (optD (some c)), none]) (s' := ()) (by simp)]
    have eT : fAndT (fTst (fBin (gCmp pLt) (fUn gLen (fBin gIx (fVar 1) (fC (.int 1)))) (fUn gLen (fBin gIx (fVar 1) (fC (.int 2)))))) (fTst (fBin gEq (fSl (fBin gIx (fVar 1) (fC (.int 2))) oNone (oSome (fUn gLen (fBin gIx (fVar 1) (fC (.int 1)))))) (fBin gIx (fVar 1) (fC (.int 1))))) [some (enc j), some (.tuple [.str "move", pathD p, pathD g]), some (optD (some c)), none] () = some (decide (p.length < g.length ∧ g.take p.length = p)) := by
      have e1 : gLen (pathD p) = some (.int (p.length : Int)) := by unfold pathD; simp
      have e2 : gLen (pathD g) = some (.int (g.length : Int)) := by unfold pathD; simp
      by_cases c1 : p.length < g.length
      · have c1' : (p.length : Int) < (g.length : Int) := by omega
        have e3 : slO (some (pathD g)) (some none) (some (some (p.length : Int))) = some (pathD (g.take p.length)) := by
          unfold pathD
          rw [slO_s, cut_to, List.map_take]
        have e4 := gEq_path (g.take p.length) p
        simp [e1, e2, c1, e3, e4]
      · simp [e1, e2, c1]
    by_cases cc : p.length < g.length ∧ g.take p.length = p
    · refine sSeq_rt ?_
      rw [sIf_ap, eT, decide_eq_true cc, ifS_t, Option.bind_some, if_pos cc]
      simp
    · rw [sSeq_nx (D' := [some (enc j), some (.tuple [.str "move", pathD p, pathD g]), some (optD (some c)), none]) (s' := ()) (by rw [sIf_ap, eT, decide_eq_false cc, ifS_f, sNil_ap])]
      rw [Option.bind_some, if_neg cc]
      have h1 := F_without_eq 70 p j hp (by omega)
      cases hw : wo j p with
      | none =>
        rw [hw] at h1
        simp [h1]
      | some l =>
        rw [hw] at h1
        have hl := (wo_facts hw).1
        have h2 := F_grown_eq 70 g l c hg (by omega)
        simp [h1, h2]
theorem F_done_eq (j : J) (d : Dd) (hs : size j ≤ 500000) (h : okD d) : F_done [enc j, encD d] = some (optD (dn j d)) := by
  cases d with
  | add p v => exact done_add j v p h hs
  | rem p => exact done_rem j p h hs
  | rep p v => exact done_rep j v p h hs
  | mv p g => exact done_mv j p g hs h.1 h.2
  | cp p g => exact done_cp j p g hs h.2
  | tst p v => exact done_tst j v p hs h.2.1 h.2.2.1 h.2.2.2
end Pl

namespace Pl
open PySem DL Pg
/-! ### the figures of a number -/
def figs (k : Nat) : Nm := ((Nat.toDigits 10 k).map Char.toNat).map fun (c : Nat) => (c : Int)
theorem codes_figs (k : Nat) : codesOf (Str.ofString (toString ((k : Nat) : Int))) = figs k := by
  unfold codesOf figs
  rw [PySem.W.KIN.signs_num]
theorem digit48 : ∀ d : Nat, d < 10 → (Nat.digitChar d).toNat = 48 + d := by decide
theorem figs_lt {k : Nat} (h : k < 10) : figs k = [48 + (k : Int)] := by
  unfold figs
  rw [Nat.toDigits_of_lt_base h, List.map_cons, List.map_nil, List.map_cons, List.map_nil, digit48 k h]
  simp
theorem figs_ge {k : Nat} (h : ¬ k < 10) : figs k = figs (k / 10) ++ [48 + ((k % 10 : Nat) : Int)] := by
  have hm : k % 10 < 10 := Nat.mod_lt k (by decide)
  have t : Nat.toDigits 10 (k / 10) ++ Nat.toDigits 10 (k % 10) = Nat.toDigits 10 (10 * (k / 10) + k % 10) := Nat.toDigits_append_toDigits (by decide) (by omega) hm
  rw [Nat.div_add_mod] at t
  have h2 := figs_lt hm
  unfold figs at h2 ⊢
  rw [← t, List.map_append, List.map_append, h2]
theorem plcO_app : ∀ (a b : Nm) (acc : Int), plcO acc (a ++ b) = (plcO acc a).bind fun v => plcO v b
  | [], b, acc => rfl
  | p :: r, b, acc => by
    rw [List.cons_append, plcO, plcO]
    by_cases h : 48 ≤ p ∧ p ≤ 57
    · rw [if_pos h, if_pos h]; exact plcO_app r b _
    · rw [if_neg h, if_neg h]; rfl
theorem plcO_figs (k : Nat) : plcO 0 (figs k) = some (k : Int) := by
  induction k using Nat.strongRecOn with
  | _ k ih =>
    by_cases h : k < 10
    · rw [figs_lt h, plcO, if_pos (by omega), plcO]
      congr 1
      omega
    · rw [figs_ge h, plcO_app, ih (k / 10) (by omega), Option.bind_some, plcO, if_pos (by omega), plcO]
      congr 1
      omega
theorem figs_ne (k : Nat) : figs k ≠ [] := by
  by_cases h : k < 10
  · rw [figs_lt h]; exact fun z => nomatch z
  · rw [figs_ge h]; simp
theorem figs_head (k : Nat) : (figs k).head? = some 48 → k = 0 := by
  induction k using Nat.strongRecOn with
  | _ k ih =>
    intro e
    by_cases h : k < 10
    · rw [figs_lt h] at e
      simp at e
      omega
    · rw [figs_ge h, List.head?_append] at e
      cases hq : (figs (k / 10)).head? with
      | none => exact absurd (List.head?_eq_none_iff.mp hq) (figs_ne _)
      | some c =>
        rw [hq] at e
        have e' : c = 48 := by simpa using e
        rw [e'] at hq
        have := ih (k / 10) (by omega) hq
        omega
theorem plc_figs (k : Nat) : plc (figs k) = k := by
  unfold plc
  rw [if_neg, plcO_figs]
  · rfl
  · rintro (h | ⟨h1, h2⟩)
    · exact figs_ne k h
    · have := figs_head k h2
      subst this
      rw [figs_lt (by decide)] at h1
      exact absurd h1 (by decide)
theorem figs_inj {a b : Nat} (h : figs a = figs b) : a = b := by
  have h1 := plc_figs a
  rw [h, plc_figs b] at h1
  omega
theorem figs_len (k : Nat) : (figs k).length ≤ k + 1 := by
  unfold figs
  rw [List.length_map, List.length_map]
  exact PySem.toDigits_len_le 10 k
theorem gCodes_eq (k : Nat) (h : k ≤ 1000000) : gCodes (.int (k : Int)) = some (.list ((figs k).map PyData.int)) := by
  have hl := figs_len k
  show (if (k : Int).natAbs.log2 < 1920 ∧ (codesOf (Str.ofString (toString (k : Int)))).length ≤ sizeLine then some (PyData.list ((codesOf (Str.ofString (toString (k : Int)))).map PyData.int)) else none) = _
  rw [codes_figs, if_pos]
  refine ⟨?_, small (by omega)⟩
  have h1 : (k : Int).natAbs = k := Int.natAbs_natCast k
  rw [h1]
  have h2 : Nat.log2 k < 20 := by
    by_cases hk : k = 0
    · subst hk; decide
    · rw [Nat.log2_lt hk]
      have : (2 : Nat) ^ 20 = 1048576 := by decide
      omega
  omega
theorem F_figures_eq (k : Nat) (h : k ≤ 1000000) : F_figures [.int (k : Int)] = some (.list ((figs k).map PyData.int)) := by
  refine runF_rt ?_
  show sRet (fCodes 1 (fVar 0)) [some (.int (k : Int)), none] () = _
  have e : (fCodes 1 (fVar 0) : FE Unit) [some (.int (k : Int)), none] () = gCodes (.int (k : Int)) := rfl
  rw [sRet_ap, e, gCodes_eq k h]
  rfl
/-! ### depth, size, fits -/
theorem fold_max (l : List Nat) (a : Nat) : l.foldl (fun a x => max a x) a = max a (maxL l) := by
  induction l generalizing a with
  | nil => show a = max a 0; omega
  | cons x r ih =>
    rw [List.foldl_cons, ih]
    show max (max a x) (maxL r) = max a (max x (maxL r))
    omega
theorem fold_add (l : List Nat) (a : Nat) : l.foldl (fun a x => a + x) a = a + l.sum := by
  induction l generalizing a with
  | nil => rfl
  | cons x r ih => rw [List.foldl_cons, ih, List.sum_cons]; omega
theorem gMax_nat (a b : Nat) : gMax (.int (a : Int)) (.int (b : Int)) = some (.int ((max a b : Nat) : Int)) := by
  show some (PyData.int (if (b : Int) > (a : Int) then (b : Int) else (a : Int))) = _
  congr 2
  split <;> omega
theorem F_deep_eq : ∀ (n : Nat) (j : J), depth j < n → F_deep n [enc j] = some (.int (depth j : Int))
  | 0, _, h => absurd h (Nat.not_lt_zero _)
  | n + 1, j, h => by
    refine runF_rt ?_
    show b_deep F_kind (F_deep n) [some (enc j), none, none, none] () = _
    have hk := F_kind_eq j
    unfold b_deep
    rw [sSeq_nx (D' := [some (enc j), some (.str (kd j).s), none, none]) (s' := ()) (by simp [hk])]
    cases j with
    | row xs =>
      rw [sSeq_nx (D' := [some (enc (.row xs)), some (.str "row"), none, none]) (s' := ()) (by simp [kd, Wd.s])]
      rw [sSeq_nx (D' := [some (enc (.row xs)), some (.str "row"), some (.int ((0 : Nat) : Int)), none]) (s' := ()) (by simp)]
      obtain ⟨D', s', h1, o, rfl⟩ := forL_fold (S := Unit) (st := st1 3) (b := lb_deep_1 F_kind (F_deep n)) (g := enc) (fun a x => max a (depth x)) (fun a D _ => ∃ o, D = [some (enc (.row xs)), some (.str "row"), some (.int (a : Int)), o]) xs 0 [some (enc (.row xs)), some (.str "row"), some (.int ((0 : Nat) : Int)), none] () (by
        rintro x hx a D s ⟨o, rfl⟩
        have hd := depth_mem hx
        have ih := F_deep_eq n x (by omega)
        refine ⟨_, rfl, _, (), ?_, ⟨some (enc x), rfl⟩⟩
        simp [lb_deep_1, ih, gMax_nat]) ⟨none, rfl⟩
      have hfor : sFor itemsT (st1 3) (fBin gIx (fVar 0) (fC (.int 1))) (lb_deep_1 F_kind (F_deep n)) [some (enc (.row xs)), some (.str "row"), some (.int ((0 : Nat) : Int)), none] () = forL (st1 3) (lb_deep_1 F_kind (F_deep n)) (xs.map enc) [some (enc (.row xs)), some (.str "row"), some (.int ((0 : Nat) : Int)), none] () := by
        simp [enc_row]
      rw [sSeq_nx (hfor.trans h1)]
      have e : xs.foldl (fun a x => max a (depth x)) 0 = maxL (xs.map depth) := by
        have := fold_max (xs.map depth) 0
        rw [List.foldl_map] at this
        rw [this]; omega
      rw [e]
      simp [depth_row]
    | fld ms =>
      rw [sSeq_nx (D' := [some (enc (.fld ms)), some (.str "fields"), none, none]) (s' := ()) (by simp [kd, Wd.s])]
      rw [sSeq_nx (D' := [some (enc (.fld ms)), some (.str "fields"), some (.int ((0 : Nat) : Int)), none]) (s' := ()) (by simp)]
      obtain ⟨D', s', h1, o, rfl⟩ := forL_fold (S := Unit) (st := st1 3) (b := lb_deep_1 F_kind (F_deep n)) (g := encP) (fun a x => max a (depth x.2)) (fun a D _ => ∃ o, D = [some (enc (.fld ms)), some (.str "fields"), some (.int (a : Int)), o]) ms 0 [some (enc (.fld ms)), some (.str "fields"), some (.int ((0 : Nat) : Int)), none] () (by
        rintro x hx a D s ⟨o, rfl⟩
        have hd := depth_memf hx
        have ih := F_deep_eq n x.2 (by omega)
        refine ⟨_, rfl, _, (), ?_, ⟨some (encP x), rfl⟩⟩
        simp [lb_deep_1, ih, gMax_nat]) ⟨none, rfl⟩
      have hfor : sFor itemsT (st1 3) (fBin gIx (fVar 0) (fC (.int 1))) (lb_deep_1 F_kind (F_deep n)) [some (enc (.fld ms)), some (.str "fields"), some (.int ((0 : Nat) : Int)), none] () = forL (st1 3) (lb_deep_1 F_kind (F_deep n)) (ms.map encP) [some (enc (.fld ms)), some (.str "fields"), some (.int ((0 : Nat) : Int)), none] () := by
        simp [enc_fld]
      rw [sSeq_nx (hfor.trans h1)]
      have e : ms.foldl (fun a x => max a (depth x.2)) 0 = maxL (ms.map fun x => depth x.2) := by
        have := fold_max (ms.map fun x => depth x.2) 0
        rw [List.foldl_map] at this
        rw [this]; omega
      rw [e]
      simp [depth_fld]
    | non => refine sSeq_rt ?_; simp [kd, Wd.s, depth_non]
    | bl b => refine sSeq_rt ?_; simp [kd, Wd.s, depth_bl]
    | num a b => refine sSeq_rt ?_; simp [kd, Wd.s, depth_num]
    | txt cs => refine sSeq_rt ?_; simp [kd, Wd.s, depth_txt]
theorem F_size_eq : ∀ (n : Nat) (j : J), depth j < n → F_size n [enc j] = some (.int (size j : Int))
  | 0, _, h => absurd h (Nat.not_lt_zero _)
  | n + 1, j, h => by
    refine runF_rt ?_
    show b_size F_kind (F_size n) [some (enc j), none, none, none] () = _
    have hk := F_kind_eq j
    unfold b_size
    rw [sSeq_nx (D' := [some (enc j), some (.str (kd j).s), none, none]) (s' := ()) (by simp [hk])]
    rw [sSeq_nx (D' := [some (enc j), some (.str (kd j).s), some (.int ((1 : Nat) : Int)), none]) (s' := ()) (by simp)]
    cases j with
    | row xs =>
      obtain ⟨D', s', h1, o, rfl⟩ := forL_fold (S := Unit) (st := st1 3) (b := lb_size_1 F_kind (F_size n)) (g := enc) (fun a x => a + size x) (fun a D _ => ∃ o, D = [some (enc (.row xs)), some (.str "row"), some (.int (a : Int)), o]) xs 1 [some (enc (.row xs)), some (.str "row"), some (.int ((1 : Nat) : Int)), none] () (by
        rintro x hx a D s ⟨o, rfl⟩
        have hd := depth_mem hx
        have ih := F_size_eq n x (by omega)
        refine ⟨_, rfl, _, (), ?_, ⟨some (enc x), rfl⟩⟩
        simp [lb_size_1, ih]) ⟨none, rfl⟩
      have hfor : sIf (fTst (fBin gNe (fVar 1) (fC (.str "")))) (sFor itemsT (st1 3) (fBin gIx (fVar 0) (fC (.int 1))) (lb_size_1 F_kind (F_size n))) sNil [some (enc (.row xs)), some (.str (kd (.row xs)).s), some (.int ((1 : Nat) : Int)), none] () = forL (st1 3) (lb_size_1 F_kind (F_size n)) (xs.map enc) [some (enc (.row xs)), some (.str "row"), some (.int ((1 : Nat) : Int)), none] () := by
        simp [enc_row, kd, Wd.s]
      rw [sSeq_nx (hfor.trans h1)]
      have e : xs.foldl (fun a x => a + size x) 1 = 1 + (xs.map size).sum := by
        have := fold_add (xs.map size) 1
        rw [List.foldl_map] at this
        exact this
      rw [e]
      simp [size_row]
    | fld ms =>
      obtain ⟨D', s', h1, o, rfl⟩ := forL_fold (S := Unit) (st := st1 3) (b := lb_size_1 F_kind (F_size n)) (g := encP) (fun a x => a + size x.2) (fun a D _ => ∃ o, D = [some (enc (.fld ms)), some (.str "fields"), some (.int (a : Int)), o]) ms 1 [some (enc (.fld ms)), some (.str "fields"), some (.int ((1 : Nat) : Int)), none] () (by
        rintro x hx a D s ⟨o, rfl⟩
        have hd := depth_memf hx
        have ih := F_size_eq n x.2 (by omega)
        refine ⟨_, rfl, _, (), ?_, ⟨some (encP x), rfl⟩⟩
        simp [lb_size_1, ih]) ⟨none, rfl⟩
      have hfor : sIf (fTst (fBin gNe (fVar 1) (fC (.str "")))) (sFor itemsT (st1 3) (fBin gIx (fVar 0) (fC (.int 1))) (lb_size_1 F_kind (F_size n))) sNil [some (enc (.fld ms)), some (.str (kd (.fld ms)).s), some (.int ((1 : Nat) : Int)), none] () = forL (st1 3) (lb_size_1 F_kind (F_size n)) (ms.map encP) [some (enc (.fld ms)), some (.str "fields"), some (.int ((1 : Nat) : Int)), none] () := by
        simp [enc_fld, kd, Wd.s]
      rw [sSeq_nx (hfor.trans h1)]
      have e : ms.foldl (fun a x => a + size x.2) 1 = 1 + (ms.map fun m => size m.2).sum := by
        have := fold_add (ms.map fun m => size m.2) 1
        rw [List.foldl_map] at this
        exact this
      rw [e]
      simp [size_fld]
    | non => simp [kd, Wd.s, size_non]
    | bl b => simp [kd, Wd.s, size_bl]
    | num a b => simp [kd, Wd.s, size_num]
    | txt cs => simp [kd, Wd.s, size_txt]
theorem F_fits_eq (j : J) (h : depth j < 140) : F_fits [enc j] = some (.bool (decide (size j ≤ 300 ∧ depth j ≤ 64))) := by
  refine runF_rt ?_
  show b_fits (F_size 140) (F_deep 140) [some (enc j)] () = _
  have h1 := F_size_eq 140 j h
  have h2 := F_deep_eq 140 j h
  unfold b_fits
  by_cases c : size j ≤ 300
  · have c1 : (size j : Int) ≤ 300 := by omega
    by_cases c2 : depth j ≤ 64
    · have c3 : (depth j : Int) ≤ 64 := by omega
      simp [h1, h2, c, c1, c2, c3]
    · have c3 : ¬ (depth j : Int) ≤ 64 := by omega
      simp [h1, h2, c, c1, c2, c3]
  · have c1 : ¬ (size j : Int) ≤ 300 := by omega
    simp [h1, h2, c, c1]
/-! ### members turned -/
def tnd : Nat → J → Int → J
  | n + 1, .row xs, k => .row (xs.map fun x => tnd n x (k.fdiv 3))
  | n + 1, .fld ms, k => .fld ((ms.drop (k.fmod ((ms.length : Int) + 1)).toNat ++ ms.take (k.fmod ((ms.length : Int) + 1)).toNat).map fun m => (m.1, tnd n m.2 (k.fdiv 5)))
  | _, j, _ => j
theorem fdiv_ok (k : Int) {j : Int} (h : j ≠ 0 ∧ j.natAbs < 1073741824) : gFdiv (.int k) (.int j) = some (.int (k.fdiv j)) := gFdiv_int h
@[simp] theorem fdiv3 (k : Int) : gFdiv (.int k) (.int 3) = some (.int (k.fdiv 3)) := gFdiv_int (by decide)
@[simp] theorem fdiv5 (k : Int) : gFdiv (.int k) (.int 5) = some (.int (k.fdiv 5)) := gFdiv_int (by decide)
theorem F_turned_eq : ∀ (n : Nat) (j : J) (k : Int), depth j < n → size j ≤ 1000000 → F_turned n [enc j, .int k] = some (enc (tnd n j k))
  | 0, _, _, h, _ => absurd h (Nat.not_lt_zero _)
  | n + 1, j, k, h, hs => by
    refine runF_rt ?_
    show b_turned F_kind (F_turned n) [some (enc j), some (.int k), none, none, none, none, none] () = _
    have hk := F_kind_eq j
    unfold b_turned
    rw [sSeq_nx (D' := [some (enc j), some (.int k), some (.str (kd j).s), none, none, none, none]) (s' := ()) (by simp [hk])]
    cases j with
    | row xs =>
      have hl := len_row xs
      rw [sSeq_nx (D' := [some (enc (.row xs)), some (.int k), some (.str "row"), none, none, none, none]) (s' := ()) (by simp [kd, Wd.s])]
      refine sSeq_rt ?_
      have hcomp : compO itemsT 3 fYes (fCall 2 (F_turned n) (fCons (fVar 3) (fCons (fBin gFdiv (fVar 1) (fC (.int 3))) fNil))) (some (.tuple (xs.map enc))) [some (enc (.row xs)), some (.int k), some (.str "row"), none, none, none, none] () = some (.list (xs.map fun x => enc (tnd n x (k.fdiv 3)))) := by
        refine compO_T (by rw [List.length_map]; omega) ?_
        refine compL_map (fun x => enc (tnd n x (k.fdiv 3))) _ _ _ fun x hx => ?_
        have h1 := depth_mem hx
        have h2 := size_mem hx
        have ih := F_turned_eq n x (k.fdiv 3) (by omega) (by omega)
        simp [ih]
      have e : enc (tnd (n + 1) (.row xs) k) = .tuple [.str "row", .tuple (xs.map fun x => enc (tnd n x (k.fdiv 3)))] := by
        rw [tnd, enc_row, List.map_map]
        rfl
      rw [e]
      rw [enc_row] at hcomp
      simp [enc_row, hcomp]
    | fld ms =>
      have hl := len_fld ms
      rw [sSeq_nx (D' := [some (enc (.fld ms)), some (.int k), some (.str "fields"), none, none, none, none]) (s' := ()) (by simp [kd, Wd.s])]
      rw [sSeq_nx (D' := [some (enc (.fld ms)), some (.int k), some (.str "fields"), none, none, none, none]) (s' := ()) (by simp)]
      have hne : (ms.length : Int) + 1 ≠ 0 := by omega
      have hm := gMod_int (i := k) (j := (ms.length : Int) + 1) hne
      have h0 : 0 ≤ k.fmod ((ms.length : Int) + 1) := Int.fmod_nonneg_of_pos _ (by omega)
      have h1 : k.fmod ((ms.length : Int) + 1) < (ms.length : Int) + 1 := Int.fmod_lt_of_pos _ (by omega)
      rw [tnd]
      obtain ⟨a, ha⟩ : ∃ a : Nat, k.fmod ((ms.length : Int) + 1) = (a : Int) := ⟨(k.fmod ((ms.length : Int) + 1)).toNat, by omega⟩
      rw [ha] at hm h0 h1 ⊢
      rw [Int.toNat_natCast]
      rw [sSeq_nx (D' := [some (enc (.fld ms)), some (.int k), some (.str "fields"), none, some (.int (a : Int)), none, none]) (s' := ()) (by simp [enc_fld, hm])]
      have e1 : gAdd (.tuple ((ms.map encP).drop a)) (.tuple ((ms.map encP).take a)) = some (.tuple ((ms.drop a ++ ms.take a).map encP)) := by
        rw [gAdd_t (by rw [List.length_drop, List.length_take, List.length_map]; omega), List.map_append, List.map_drop, List.map_take]
      rw [sSeq_nx (D' := [some (enc (.fld ms)), some (.int k), some (.str "fields"), none, some (.int (a : Int)), some (.tuple ((ms.drop a ++ ms.take a).map encP)), none]) (s' := ()) (by simp [enc_fld, cut_to, cut_from, e1, -List.map_append])]
      have hcomp : compO itemsT 6 fYes (fTup (fCons (fBin gIx (fVar 6) (fC (.int 0))) (fCons (fCall 2 (F_turned n) (fCons (fBin gIx (fVar 6) (fC (.int 1))) (fCons (fBin gFdiv (fVar 1) (fC (.int 5))) fNil))) fNil))) (some (.tuple ((ms.drop a ++ ms.take a).map encP))) [some (enc (.fld ms)), some (.int k), some (.str "fields"), none, some (.int (a : Int)), some (.tuple ((ms.drop a ++ ms.take a).map encP)), none] () = some (.list ((ms.drop a ++ ms.take a).map fun m => encP (m.1, tnd n m.2 (k.fdiv 5)))) := by
        refine compO_T (by rw [List.length_map, List.length_append, List.length_drop, List.length_take]; omega) ?_
        refine compL_map (fun m : Nm × J => encP (m.1, tnd n m.2 (k.fdiv 5))) _ _ _ fun m hm => ?_
        have hm' : m ∈ ms := by
          rcases List.mem_append.mp hm with h | h
          · exact List.mem_of_mem_drop h
          · exact List.mem_of_mem_take h
        have h1 := depth_memf hm'
        have h2 := size_memf hm'
        have ih := F_turned_eq n m.2 (k.fdiv 5) (by omega) (by omega)
        simp [ih, encP]
      have e : enc (.fld ((ms.drop a ++ ms.take a).map fun m => (m.1, tnd n m.2 (k.fdiv 5)))) = .tuple [.str "fields", .tuple ((ms.drop a ++ ms.take a).map fun m => encP (m.1, tnd n m.2 (k.fdiv 5)))] := by
        rw [enc_fld, List.map_map]
        rfl
      rw [e]
      simp only [sRet_ap, fTup_ap, fCons_ap, fNil_ap, fC_ap, fUn_ap, fComp_ap, fVar_ap, List.getElem?_cons_zero, List.getElem?_cons_succ, Option.getD_some, hcomp, Option.bind_some, gTupleOf_list, consO_s, tupO_2, retO_s]
    | non => refine sSeq_rt ?_; simp [kd, Wd.s, tnd]
    | bl b => refine sSeq_rt ?_; simp [kd, Wd.s, tnd]
    | num a b => refine sSeq_rt ?_; simp [kd, Wd.s, tnd]
    | txt cs => refine sSeq_rt ?_; simp [kd, Wd.s, tnd]
end Pl

namespace Pl
open PySem DL Pg
/-! ### turned: size, depth, cleanness -/
theorem sum_turn {α : Type} (f : α → Nat) (l : List α) (a : Nat) : ((l.drop a ++ l.take a).map f).sum = (l.map f).sum := by
  rw [List.map_append, List.sum_append, Nat.add_comm, ← List.sum_append, ← List.map_append, List.take_append_drop]
theorem mem_turn {α : Type} {l : List α} {a : Nat} {x : α} (h : x ∈ l.drop a ++ l.take a) : x ∈ l := by
  rcases List.mem_append.mp h with h | h
  · exact List.mem_of_mem_drop h
  · exact List.mem_of_mem_take h
theorem nodup_turn {α : Type} {l : List α} {a : Nat} (h : l.Nodup) : (l.drop a ++ l.take a).Nodup := by
  have h1 : (l.take a ++ l.drop a).Nodup := by rw [List.take_append_drop]; exact h
  exact (List.perm_append_comm.nodup_iff).mp h1
theorem tnd_size : ∀ (n : Nat) (j : J) (k : Int), size (tnd n j k) = size j
  | 0, _, _ => rfl
  | n + 1, j, k => by
    cases j with
    | row xs =>
      rw [tnd, size_row, size_row, List.map_map]
      congr 2
      exact List.map_congr_left fun x _ => tnd_size n x _
    | fld ms =>
      rw [tnd, size_fld, size_fld, List.map_map]
      congr 1
      rw [← sum_turn (fun m : Nm × J => size m.2) ms (k.fmod ((ms.length : Int) + 1)).toNat]
      congr 1
      exact List.map_congr_left fun x _ => tnd_size n x.2 _
    | _ => rfl
theorem tnd_depth : ∀ (n : Nat) (j : J) (k : Int), depth (tnd n j k) ≤ depth j
  | 0, _, _ => Nat.le_refl _
  | n + 1, j, k => by
    cases j with
    | row xs =>
      obtain ⟨m, hm⟩ : ∃ m, depth (.row xs) = m + 1 := ⟨maxL (xs.map depth), by rw [depth_row]; omega⟩
      rw [tnd, hm, depth_row_le]
      intro x hx
      obtain ⟨y, hy, rfl⟩ := List.mem_map.mp hx
      have h1 := tnd_depth n y (k.fdiv 3)
      have h2 := depth_mem hy
      omega
    | fld ms =>
      obtain ⟨m, hm⟩ : ∃ m, depth (.fld ms) = m + 1 := ⟨maxL (ms.map fun m => depth m.2), by rw [depth_fld]; omega⟩
      rw [tnd, hm, depth_fld_le]
      intro x hx
      obtain ⟨y, hy, rfl⟩ := List.mem_map.mp hx
      have h1 := tnd_depth n y.2 (k.fdiv 5)
      have h2 := depth_memf (mem_turn hy)
      show depth (tnd n y.2 (k.fdiv 5)) ≤ m
      omega
    | _ => exact Nat.le_refl _
theorem tnd_clean : ∀ (n : Nat) (j : J) (k : Int), Clean j → Clean (tnd n j k)
  | 0, _, _, h => h
  | n + 1, j, k, h => by
    cases h with
    | row hx =>
      rw [tnd]
      refine .row fun x hm => ?_
      obtain ⟨y, hy, rfl⟩ := List.mem_map.mp hm
      exact tnd_clean n y _ (hx y hy)
    | fld nd hx =>
      rw [tnd]
      refine .fld ?_ fun x hm => ?_
      · rw [List.map_map]
        show (List.map (fun m : Nm × J => m.1) _).Nodup
        rw [List.map_append, List.map_drop, List.map_take]
        exact nodup_turn nd
      · obtain ⟨y, hy, rfl⟩ := List.mem_map.mp hm
        exact tnd_clean n y.2 _ (hx y (mem_turn hy))
    | non => exact .non
    | bl b => exact .bl b
    | num a b => exact .num a b
    | txt cs => exact .txt cs
/-! ### lists that grow -/
def appO (x : Option PyData) (D : Ds) (L : List PyData) : Option (Res (List PyData)) := x.bind fun d => if L.length < sizeLine then some (.nx D (L ++ [d])) else none
def cloO (n : Nat) (F : List PyData → List PyData → Option (List PyData)) (x : Option (List PyData)) (D : Ds) (L : List PyData) : Option (Res (List PyData)) := x.bind fun ds => if ds.length = n then (F L ds).bind fun L' => some (.nx D L') else none
@[simp] theorem sApp_ap {fe : FE (List PyData)} {D : Ds} {L : List PyData} : sApp fe D L = appO (fe D L) D L := nr rfl
@[simp] theorem sCallO_ap {n F} {a : FA (List PyData)} {D : Ds} {L : List PyData} : sCallO n F a D L = cloO n F (a D L) D L := nr rfl
theorem small1 {n : Nat} (h : n + 1 ≤ 16777216) : n < sizeLine := by rw [sizeLine_eq]; exact h
theorem appO_s {d : PyData} {D : Ds} {L : List PyData} (h : L.length + 1 ≤ 16777216) : appO (some d) D L = some (.nx D (L ++ [d])) := by
  show (if L.length < sizeLine then some (Res.nx D (L ++ [d])) else none) = _
  rw [if_pos (small1 h)]
theorem cloO_s {n F} {ds : List PyData} {D : Ds} {L L' : List PyData} (h : ds.length = n) (hF : F L ds = some L') : cloO n F (some ds) D L = some (.nx D L') := by
  show (if ds.length = n then (F L ds).bind fun L' => some (Res.nx D L') else none) = _
  rw [if_pos h, hF]
  rfl
theorem runO_nx {N : Nat} {f : FS (List PyData)} {L ds L' : List PyData} {D' : Ds} (h : f (none :: startD N ds) L = some (.nx D' L')) : runO N f L ds = some L' := by
  unfold runO
  rw [h]
theorem runO_rt {N : Nat} {f : FS (List PyData)} {L ds L' : List PyData} (h : f (none :: startD N ds) L = some (.rt .none L')) : runO N f L ds = some L' := by
  unfold runO
  rw [h]
theorem forL_app {α : Type} {i M : Nat} {b : FS (List PyData)} {g : α → PyData} (f : α → List PyData) (P : Ds → Prop) : ∀ (l : List α) (D : Ds) (L : List PyData), (∀ x ∈ l, ∀ D L, P D → L.length + (f x).length ≤ M → ∃ D', b (D.set i (some (g x))) L = some (.nx D' (L ++ f x)) ∧ P D') → P D → L.length + (l.flatMap f).length ≤ M →
    ∃ D', forL (st1 i) b (l.map g) D L = some (.nx D' (L ++ l.flatMap f)) ∧ P D'
  | [], D, L, _, hP, _ => ⟨D, by rw [List.flatMap_nil, List.append_nil]; rfl, hP⟩
  | x :: l, D, L, hb, hP, hM => by
    rw [List.flatMap_cons, List.length_append] at hM
    obtain ⟨D1, h1, hP1⟩ := hb x List.mem_cons_self D L hP (by omega)
    obtain ⟨D2, h2, hP2⟩ := forL_app f P l D1 (L ++ f x) (fun y hy => hb y (List.mem_cons_of_mem _ hy)) hP1 (by rw [List.length_append]; omega)
    refine ⟨D2, ?_, hP2⟩
    rw [List.map_cons, forL_1, h1, after_nx, h2, List.flatMap_cons, List.append_assoc]
theorem gMin_nat (a b : Nat) : gMin (.int (a : Int)) (.int (b : Int)) = some (.int ((min a b : Nat) : Int)) := by
  show some (PyData.int (if (b : Int) < (a : Int) then (b : Int) else (a : Int))) = _
  congr 2
  split <;> omega
theorem gadd_path (p : List Nm) (n : Nm) (h : p.length + 1 ≤ 16777216) : gAdd (pathD p) (.tuple [nmD n]) = some (pathD (p ++ [n])) := by
  unfold pathD
  rw [gAdd_t (by rw [List.length_map]; exact h), List.map_append]
  rfl
theorem gEq_wd2 (a b c d : Wd) : gEq (.tuple [.str a.s, .str b.s]) (.tuple [.str c.s, .str d.s]) = some (.bool (decide (a = c ∧ b = d))) := by
  have h : ∀ a b : Wd, (PyData.tuple [.str a.s, .str b.s]).canLay0 = true := fun a b => by
    rw [PyData.canLay0]
    exact cl_all fun x hx => by
      simp at hx
      rcases hx with rfl | rfl
      · exact cl_wd a
      · exact cl_wd b
  have hd : (PyData.tuple [.str a.s, .str b.s]).depth ≤ 1 := dp_tup (n := 0) fun x hx => by
    simp at hx
    rcases hx with rfl | rfl <;> rw [dp_str0] <;> exact Nat.le_refl _
  rw [gEq_of (h a b) (h c d) (Nat.le_trans (Nat.min_le_left _ _) (Nat.le_trans hd (by decide)))]
  congr 2
  rw [PyData.eqv, PyData.eqvAll, PyData.eqvAll, PyData.eqvAll, PyData.eqv, PyData.eqv, Wd.eq, Wd.eq]
  by_cases h1 : a = c <;> by_cases h2 : b = d <;> simp [h1, h2]
/-! ### the deeds between two values -/
def gthF (r : List Nm → J → J → List Dd) (p : List Nm) (ms' : List (Nm × J)) (m : Nm × J) : List Dd := match lk m.1 ms' with
  | none => [.rem (p ++ [m.1])]
  | some v => r (p ++ [m.1]) m.2 v
def gthA (p : List Nm) (ms : List (Nm × J)) (m : Nm × J) : List Dd := if (lk m.1 ms).isNone then [.add (p ++ [m.1]) m.2] else []
def gthR (r : List Nm → J → J → List Dd) (p : List Nm) (xs ys : List J) (k : Nat) : List Dd := match xs[k]?, ys[k]? with
  | some x, some y => r (p ++ [figs k]) x y
  | _, _ => []
def gthX (p : List Nm) (n k : Nat) : List Dd := [.rem (p ++ [figs (n - 1 - k)])]
def gthY (p : List Nm) (ys : List J) (k : Nat) : List Dd := match ys[k]? with
  | some y => [.add (p ++ [figs k]) y]
  | none => []
def gthS (r : List Nm → J → J → List Dd) (p : List Nm) : J → J → List Dd
  | .fld ms, .fld ms' => ms.flatMap (gthF r p ms') ++ ms'.flatMap (gthA p ms)
  | .row xs, .row ys => (List.range (min xs.length ys.length)).flatMap (gthR r p xs ys) ++ ((List.range (xs.length - min xs.length ys.length)).flatMap (gthX p xs.length) ++ (List.range (ys.length - min xs.length ys.length)).flatMap fun k => gthY p ys (min xs.length ys.length + k))
  | _, b => [.rep p b]
def gth : Nat → List Nm → J → J → List Dd
  | 0, _, _, _ => []
  | n + 1, p, a, b => if alk a b = true then [] else gthS (gth n) p a b
theorem gthS_rep {r : List Nm → J → J → List Dd} {p : List Nm} {a b : J} (h1 : ¬ (hd a = .row ∧ hd b = .row)) (h2 : ¬ (hd a = .fields ∧ hd b = .fields)) : gthS r p a b = [.rep p b] := by
  cases a <;> cases b <;> first | rfl | exact absurd ⟨rfl, rfl⟩ h1 | exact absurd ⟨rfl, rfl⟩ h2
end Pl

namespace Pl
open PySem DL Pg
/-! ### gather -/
theorem lk_fiN_none {n : Nm} {ms : List (Nm × J)} (h : fiN n ms = none) : lk n ms = none := by unfold lk; rw [h]; rfl
theorem lk_fiN_some {n : Nm} {ms : List (Nm × J)} {k : Nat} (h : fiN n ms = some k) : ∃ v, ms[k]? = some (n, v) ∧ lk n ms = some v := by
  obtain ⟨v, hv⟩ := fiN_get h
  exact ⟨v, hv, by unfold lk; rw [h, Option.bind_some, hv]; rfl⟩
theorem fiN_isNone (n : Nm) (ms : List (Nm × J)) : (lk n ms).isNone = decide (toI (fiN n ms) < 0) := by
  cases h : fiN n ms with
  | none => rw [lk_fiN_none h]; rfl
  | some k =>
    obtain ⟨v, _, hv⟩ := lk_fiN_some h
    rw [hv]
    have : ¬ ((k : Int) < 0) := by omega
    simp [toI, this]
abbrev gOk (F : List PyData → List PyData → Option (List PyData)) (p : List Nm) (a b : J) (ds : List Dd) : Prop := ∀ L : List PyData, L.length + ds.length ≤ 16777216 → F L [pathD p, enc a, enc b] = some (L ++ ds.map encD)
theorem gm1 (n : Nat) (p : List Nm) (hp : p.length ≤ 1000) (ms ms' : List (Nm × J)) (m : Nm × J) (ih : ∀ v, lk m.1 ms' = some v → gOk (FO_gather n) (p ++ [m.1]) m.2 v (gth n (p ++ [m.1]) m.2 v)) (o4 o5 : Option PyData) (L : List PyData) (hL : L.length + ((gthF (gth n) p ms' m).map encD).length ≤ 16777216) :
    ∃ o4' o5', lb_gather_members_1 F_named (FO_gather n) (List.set [none, some (pathD p), some (.tuple (ms.map encP)), some (.tuple (ms'.map encP)), o4, o5] 4 (some (encP m))) L = some (.nx [none, some (pathD p), some (.tuple (ms.map encP)), some (.tuple (ms'.map encP)), o4', o5'] (L ++ (gthF (gth n) p ms' m).map encD)) := by
  have hn := F_named_eq m.1 ms'
  have ha := gadd_path p m.1 (by omega)
  refine ⟨some (encP m), some (.int (toI (fiN m.1 ms'))), ?_⟩
  unfold lb_gather_members_1
  rw [sSeq_nx (D' := [none, some (pathD p), some (.tuple (ms.map encP)), some (.tuple (ms'.map encP)), some (encP m), some (.int (toI (fiN m.1 ms')))]) (s' := L) (by simp [hn])]
  rw [List.length_map] at hL
  cases h : fiN m.1 ms' with
  | none =>
    have e : gthF (gth n) p ms' m = [.rem (p ++ [m.1])] := by unfold gthF; rw [lk_fiN_none h]
    rw [e] at hL ⊢
    have hL' : L.length + 1 ≤ 16777216 := hL
    simp [toI, ha, appO_s hL', encD]
  | some k =>
    obtain ⟨v, h1, h2⟩ := lk_fiN_some h
    have e : gthF (gth n) p ms' m = gth n (p ++ [m.1]) m.2 v := by unfold gthF; rw [h2]
    rw [e] at hL ⊢
    have hk := ih v h2 L hL
    have h0 : ¬ ((k : Int) < 0) := by omega
    have e2 : L2.atI (ms'.map encP) (k : Int) = some (encP (m.1, v)) := by rw [atI_nat, List.getElem?_map, h1]; rfl
    simp [toI, ha, h0, e2, cloO_s (n := 3) rfl hk]
theorem gm2 (n : Nat) (p : List Nm) (hp : p.length ≤ 1000) (ms ms' : List (Nm × J)) (m : Nm × J) (o4 o5 : Option PyData) (L : List PyData) (hL : L.length + ((gthA p ms m).map encD).length ≤ 16777216) :
    ∃ o4' o5', lb_gather_members_2 F_named (FO_gather n) (List.set [none, some (pathD p), some (.tuple (ms.map encP)), some (.tuple (ms'.map encP)), o4, o5] 4 (some (encP m))) L = some (.nx [none, some (pathD p), some (.tuple (ms.map encP)), some (.tuple (ms'.map encP)), o4', o5'] (L ++ (gthA p ms m).map encD)) := by
  have hn := F_named_eq m.1 ms
  have ha := gadd_path p m.1 (by omega)
  refine ⟨some (encP m), o5, ?_⟩
  unfold lb_gather_members_2
  rw [List.length_map] at hL
  unfold gthA at hL ⊢
  rw [fiN_isNone] at hL ⊢
  by_cases h : toI (fiN m.1 ms) < 0
  · rw [decide_eq_true h] at hL ⊢
    have hL' : L.length + 1 ≤ 16777216 := hL
    simp [hn, h, ha, appO_s hL', encD]
  · rw [decide_eq_false h]
    simp [hn, h]
theorem map_fm {α β γ : Type} (f : β → γ) (g : α → List β) (l : List α) : (l.flatMap g).map f = l.flatMap fun x => (g x).map f := List.map_flatMap ..
theorem gather_members_eq (n : Nat) (p : List Nm) (hp : p.length ≤ 1000) (ms ms' : List (Nm × J)) (ih : ∀ m ∈ ms, ∀ v, lk m.1 ms' = some v → gOk (FO_gather n) (p ++ [m.1]) m.2 v (gth n (p ++ [m.1]) m.2 v)) (L : List PyData) (hL : L.length + (gthS (gth n) p (.fld ms) (.fld ms')).length ≤ 16777216) :
    runO 5 (b_gather_members F_named (FO_gather n)) L [pathD p, .tuple (ms.map encP), .tuple (ms'.map encP)] = some (L ++ (gthS (gth n) p (.fld ms) (.fld ms')).map encD) := by
  have hL' : L.length + ((ms.flatMap (gthF (gth n) p ms')).length + (ms'.flatMap (gthA p ms)).length) ≤ 16777216 := by rw [← List.length_append]; exact hL
  obtain ⟨D1, h1, o4, o5, rfl⟩ := forL_app (M := 16777216) (b := lb_gather_members_1 F_named (FO_gather n)) (i := 4) (g := encP) (fun m => (gthF (gth n) p ms' m).map encD) (fun D => ∃ o4 o5, D = [none, some (pathD p), some (.tuple (ms.map encP)), some (.tuple (ms'.map encP)), o4, o5]) ms [none, some (pathD p), some (.tuple (ms.map encP)), some (.tuple (ms'.map encP)), none, none] L (by
    rintro m hm D L ⟨o4, o5, rfl⟩ hL
    obtain ⟨a, b, h⟩ := gm1 n p hp ms ms' m (ih m hm) o4 o5 L hL
    exact ⟨_, h, a, b, rfl⟩) ⟨none, none, rfl⟩ (by rw [← map_fm, List.length_map]; omega)
  obtain ⟨D2, h2, o4', o5', rfl⟩ := forL_app (M := 16777216) (b := lb_gather_members_2 F_named (FO_gather n)) (i := 4) (g := encP) (fun m => (gthA p ms m).map encD) (fun D => ∃ o4 o5, D = [none, some (pathD p), some (.tuple (ms.map encP)), some (.tuple (ms'.map encP)), o4, o5]) ms' [none, some (pathD p), some (.tuple (ms.map encP)), some (.tuple (ms'.map encP)), o4, o5] (L ++ ms.flatMap fun m => (gthF (gth n) p ms' m).map encD) (by
    rintro m hm D L ⟨o4, o5, rfl⟩ hL
    obtain ⟨a, b, h⟩ := gm2 n p hp ms ms' m o4 o5 L hL
    exact ⟨_, h, a, b, rfl⟩) ⟨_, _, rfl⟩ (by rw [← map_fm, ← map_fm, List.length_append, List.length_map, List.length_map]; omega)
  refine runO_nx (D' := [none, some (pathD p), some (.tuple (ms.map encP)), some (.tuple (ms'.map encP)), o4', o5']) ?_
  show b_gather_members F_named (FO_gather n) [none, some (pathD p), some (.tuple (ms.map encP)), some (.tuple (ms'.map encP)), none, none] L = _
  unfold b_gather_members
  rw [sSeq_nx (show sFor itemsT (st1 4) (fVar 2) (lb_gather_members_1 F_named (FO_gather n)) [none, some (pathD p), some (.tuple (ms.map encP)), some (.tuple (ms'.map encP)), none, none] L = _ from h1)]
  have h3 : sFor itemsT (st1 4) (fVar 3) (lb_gather_members_2 F_named (FO_gather n)) [none, some (pathD p), some (.tuple (ms.map encP)), some (.tuple (ms'.map encP)), o4, o5] (L ++ ms.flatMap fun m => (gthF (gth n) p ms' m).map encD) = _ := h2
  rw [h3, ← map_fm, ← map_fm, List.append_assoc, ← List.map_append]
  rfl
theorem gr1 (n : Nat) (p : List Nm) (hp : p.length ≤ 1000) (xs ys : List J) (s k : Nat) (hk : k < min xs.length ys.length) (hx : xs.length ≤ 1000000) (ih : ∀ x ∈ xs, ∀ y ∈ ys, ∀ q : Nm, gOk (FO_gather n) (p ++ [q]) x y (gth n (p ++ [q]) x y)) (o5 : Option PyData) (L : List PyData) (hL : L.length + ((gthR (gth n) p xs ys k).map encD).length ≤ 16777216) :
    ∃ o5', lb_gather_row_1 (FO_gather n) F_figures (List.set [none, some (pathD p), some (.tuple (xs.map enc)), some (.tuple (ys.map enc)), some (.int (s : Int)), o5] 5 (some (.int (k : Int)))) L = some (.nx [none, some (pathD p), some (.tuple (xs.map enc)), some (.tuple (ys.map enc)), some (.int (s : Int)), o5'] (L ++ (gthR (gth n) p xs ys k).map encD)) := by
  have h1 : xs[k]? = some (xs[k]'(by omega)) := List.getElem?_eq_getElem _
  have h2 : ys[k]? = some (ys[k]'(by omega)) := List.getElem?_eq_getElem _
  generalize xs[k]'(by omega) = x at h1
  generalize ys[k]'(by omega) = y at h2
  have e : gthR (gth n) p xs ys k = gth n (p ++ [figs k]) x y := by unfold gthR; rw [h1, h2]
  rw [List.length_map] at hL
  rw [e] at hL ⊢
  have hq := ih x (List.mem_of_getElem? h1) y (List.mem_of_getElem? h2) (figs k) L hL
  have ha := gadd_path p (figs k) (by omega)
  have hf := F_figures_eq k (by omega)
  have e1 : L2.atI (xs.map enc) (k : Int) = some (enc x) := by rw [atI_nat, List.getElem?_map, h1]; rfl
  have e2 : L2.atI (ys.map enc) (k : Int) = some (enc y) := by rw [atI_nat, List.getElem?_map, h2]; rfl
  refine ⟨some (.int (k : Int)), ?_⟩
  unfold nmD at ha
  simp [lb_gather_row_1, hf, ha, e1, e2, cloO_s (n := 3) rfl hq]
theorem gr2 (n : Nat) (p : List Nm) (hp : p.length ≤ 1000) (xs ys : List J) (s k : Nat) (hk : k < xs.length) (hx : xs.length ≤ 1000000) (o5 : Option PyData) (L : List PyData) (hL : L.length + ((gthX p xs.length k).map encD).length ≤ 16777216) :
    ∃ o5', lb_gather_row_2 (FO_gather n) F_figures (List.set [none, some (pathD p), some (.tuple (xs.map enc)), some (.tuple (ys.map enc)), some (.int (s : Int)), o5] 5 (some (.int (k : Int)))) L = some (.nx [none, some (pathD p), some (.tuple (xs.map enc)), some (.tuple (ys.map enc)), some (.int (s : Int)), o5'] (L ++ (gthX p xs.length k).map encD)) := by
  have hL' : L.length + 1 ≤ 16777216 := hL
  have ha := gadd_path p (figs (xs.length - 1 - k)) (by omega)
  have hf := F_figures_eq (xs.length - 1 - k) (by omega)
  have e1 : (xs.length : Int) - 1 - (k : Int) = ((xs.length - 1 - k : Nat) : Int) := by omega
  refine ⟨some (.int (k : Int)), ?_⟩
  unfold nmD at ha
  simp [lb_gather_row_2, e1, hf, ha, appO_s hL', gthX, encD]
theorem gr3 (n : Nat) (p : List Nm) (hp : p.length ≤ 1000) (xs ys : List J) (s k : Nat) (hk : s + k < ys.length) (hx : ys.length ≤ 1000000) (o5 : Option PyData) (L : List PyData) (hL : L.length + ((gthY p ys (s + k)).map encD).length ≤ 16777216) :
    ∃ o5', lb_gather_row_3 (FO_gather n) F_figures (List.set [none, some (pathD p), some (.tuple (xs.map enc)), some (.tuple (ys.map enc)), some (.int (s : Int)), o5] 5 (some (.int ((s : Int) + (k : Int))))) L = some (.nx [none, some (pathD p), some (.tuple (xs.map enc)), some (.tuple (ys.map enc)), some (.int (s : Int)), o5'] (L ++ (gthY p ys (s + k)).map encD)) := by
  have h2 : ys[s + k]? = some (ys[s + k]'(by omega)) := List.getElem?_eq_getElem _
  generalize ys[s + k]'(by omega) = y at h2
  have e : gthY p ys (s + k) = [.add (p ++ [figs (s + k)]) y] := by unfold gthY; rw [h2]
  rw [e] at hL ⊢
  have hL' : L.length + 1 ≤ 16777216 := hL
  have ha := gadd_path p (figs (s + k)) (by omega)
  have hf := F_figures_eq (s + k) (by omega)
  have e1 : (s : Int) + (k : Int) = ((s + k : Nat) : Int) := by omega
  have e2 : L2.atI (ys.map enc) ((s + k : Nat) : Int) = some (enc y) := by rw [atI_nat, List.getElem?_map, h2]; rfl
  refine ⟨some (.int ((s + k : Nat) : Int)), ?_⟩
  unfold nmD at ha
  rw [e1]
  have hf2 := hf
  simp only [Int.natCast_add] at hf2 e2
  simp [lb_gather_row_3, hf2, ha, e2, appO_s hL', encD]
theorem gather_row_eq (n : Nat) (p : List Nm) (hp : p.length ≤ 1000) (xs ys : List J) (hx : xs.length ≤ 1000000) (hy : ys.length ≤ 1000000) (ih : ∀ x ∈ xs, ∀ y ∈ ys, ∀ q : Nm, gOk (FO_gather n) (p ++ [q]) x y (gth n (p ++ [q]) x y)) (L : List PyData) (hL : L.length + (gthS (gth n) p (.row xs) (.row ys)).length ≤ 16777216) :
    runO 5 (b_gather_row (FO_gather n) F_figures) L [pathD p, .tuple (xs.map enc), .tuple (ys.map enc)] = some (L ++ (gthS (gth n) p (.row xs) (.row ys)).map encD) := by
  have hL' : L.length + (((List.range (min xs.length ys.length)).flatMap (gthR (gth n) p xs ys)).length + (((List.range (xs.length - min xs.length ys.length)).flatMap (gthX p xs.length)).length + ((List.range (ys.length - min xs.length ys.length)).flatMap fun k => gthY p ys (min xs.length ys.length + k)).length)) ≤ 16777216 := by rw [← List.length_append, ← List.length_append]; exact hL
  have e0 : (gthS (gth n) p (.row xs) (.row ys)).map encD = ((List.range (min xs.length ys.length)).flatMap (gthR (gth n) p xs ys) ++ ((List.range (xs.length - min xs.length ys.length)).flatMap (gthX p xs.length) ++ (List.range (ys.length - min xs.length ys.length)).flatMap fun k => gthY p ys (min xs.length ys.length + k))).map encD := rfl
  rw [e0]
  have hsx : min xs.length ys.length ≤ xs.length := Nat.min_le_left _ _
  have hsy : min xs.length ys.length ≤ ys.length := Nat.min_le_right _ _
  have hmin := gMin_nat xs.length ys.length
  have hr1 := gr1 n p hp xs ys (min xs.length ys.length)
  generalize min xs.length ys.length = s at *
  obtain ⟨D1, h1, o5, rfl⟩ := forL_app (M := 16777216) (b := lb_gather_row_1 (FO_gather n) F_figures) (i := 5) (g := fun (k : Nat) => PyData.int (k : Int)) (fun k => (gthR (gth n) p xs ys k).map encD) (fun D => ∃ o5, D = [none, some (pathD p), some (.tuple (xs.map enc)), some (.tuple (ys.map enc)), some (.int (s : Int)), o5]) (List.range s) [none, some (pathD p), some (.tuple (xs.map enc)), some (.tuple (ys.map enc)), some (.int (s : Int)), none] L (by
    rintro k hk D L ⟨o5, rfl⟩ hL
    obtain ⟨a, h⟩ := hr1 k (List.mem_range.mp hk) hx ih o5 L hL
    exact ⟨_, h, a, rfl⟩) ⟨none, rfl⟩ (by rw [← map_fm, List.length_map]; omega)
  obtain ⟨D2, h2, o5', rfl⟩ := forL_app (M := 16777216) (b := lb_gather_row_2 (FO_gather n) F_figures) (i := 5) (g := fun (k : Nat) => PyData.int (k : Int)) (fun k => (gthX p xs.length k).map encD) (fun D => ∃ o5, D = [none, some (pathD p), some (.tuple (xs.map enc)), some (.tuple (ys.map enc)), some (.int (s : Int)), o5]) (List.range (xs.length - s)) [none, some (pathD p), some (.tuple (xs.map enc)), some (.tuple (ys.map enc)), some (.int (s : Int)), o5] (L ++ (List.range s).flatMap fun k => (gthR (gth n) p xs ys k).map encD) (by
    rintro k hk D L ⟨o5, rfl⟩ hL
    have hk' := List.mem_range.mp hk
    obtain ⟨a, h⟩ := gr2 n p hp xs ys s k (by omega) hx o5 L hL
    exact ⟨_, h, a, rfl⟩) ⟨o5, rfl⟩ (by rw [← map_fm, ← map_fm, List.length_append, List.length_map, List.length_map]; omega)
  obtain ⟨D3, h3, o5'', rfl⟩ := forL_app (M := 16777216) (b := lb_gather_row_3 (FO_gather n) F_figures) (i := 5) (g := fun (k : Nat) => PyData.int ((s : Int) + (k : Int))) (fun k => (gthY p ys (s + k)).map encD) (fun D => ∃ o5, D = [none, some (pathD p), some (.tuple (xs.map enc)), some (.tuple (ys.map enc)), some (.int (s : Int)), o5]) (List.range (ys.length - s)) [none, some (pathD p), some (.tuple (xs.map enc)), some (.tuple (ys.map enc)), some (.int (s : Int)), o5'] ((L ++ (List.range s).flatMap fun k => (gthR (gth n) p xs ys k).map encD) ++ (List.range (xs.length - s)).flatMap fun k => (gthX p xs.length k).map encD) (by
    rintro k hk D L ⟨o5, rfl⟩ hL
    have hk' := List.mem_range.mp hk
    obtain ⟨a, h⟩ := gr3 n p hp xs ys s k (by omega) hy o5 L hL
    exact ⟨_, h, a, rfl⟩) ⟨o5', rfl⟩ (by rw [← map_fm, ← map_fm, ← map_fm, List.length_append, List.length_append, List.length_map, List.length_map, List.length_map]; omega)
  refine runO_nx (D' := [none, some (pathD p), some (.tuple (xs.map enc)), some (.tuple (ys.map enc)), some (.int (s : Int)), o5'']) ?_
  show b_gather_row (FO_gather n) F_figures [none, some (pathD p), some (.tuple (xs.map enc)), some (.tuple (ys.map enc)), none, none] L = _
  unfold b_gather_row
  rw [sSeq_nx (D' := [none, some (pathD p), some (.tuple (xs.map enc)), some (.tuple (ys.map enc)), some (.int (s : Int)), none]) (s' := L) (by simp [hmin])]
  have f1 : sFor range1 (st1 5) (fVar 4) (lb_gather_row_1 (FO_gather n) F_figures) [none, some (pathD p), some (.tuple (xs.map enc)), some (.tuple (ys.map enc)), some (.int (s : Int)), none] L = _ := (forO_R (range1_nat s (by omega))).trans h1
  rw [sSeq_nx f1]
  have e1 : (xs.length : Int) - (s : Int) = ((xs.length - s : Nat) : Int) := by omega
  have f2 : ∀ L, sFor range1 (st1 5) (fBin gSub (fUn gLen (fVar 2)) (fVar 4)) (lb_gather_row_2 (FO_gather n) F_figures) [none, some (pathD p), some (.tuple (xs.map enc)), some (.tuple (ys.map enc)), some (.int (s : Int)), o5] L = forL (st1 5) (lb_gather_row_2 (FO_gather n) F_figures) ((List.range (xs.length - s)).map fun (k : Nat) => PyData.int (k : Int)) [none, some (pathD p), some (.tuple (xs.map enc)), some (.tuple (ys.map enc)), some (.int (s : Int)), o5] L := fun L => by
    simp [e1, forO_R (range1_nat (xs.length - s) (by omega))]
  rw [sSeq_nx ((f2 _).trans h2)]
  have r2 : range2 (.int (s : Int)) (.int (ys.length : Int)) = some ((List.range (ys.length - s)).map fun (k : Nat) => PyData.int ((s : Int) + (k : Int))) := by
    show (if okR (s : Int) ∧ okR (ys.length : Int) then some (rangeL (s : Int) ((ys.length : Int) - (s : Int)).toNat) else none) = _
    rw [if_pos (by unfold okR; omega)]
    have : ((ys.length : Int) - (s : Int)).toNat = ys.length - s := by omega
    rw [this]
    rfl
  have f3 : ∀ L, sFor2 (st1 5) (fVar 4) (fUn gLen (fVar 3)) (lb_gather_row_3 (FO_gather n) F_figures) [none, some (pathD p), some (.tuple (xs.map enc)), some (.tuple (ys.map enc)), some (.int (s : Int)), o5'] L = forL (st1 5) (lb_gather_row_3 (FO_gather n) F_figures) ((List.range (ys.length - s)).map fun (k : Nat) => PyData.int ((s : Int) + (k : Int))) [none, some (pathD p), some (.tuple (xs.map enc)), some (.tuple (ys.map enc)), some (.int (s : Int)), o5'] L := fun L => by
    simp [forO2_R r2]
  rw [f3, h3, List.map_append, List.map_append, map_fm, map_fm, map_fm]
  simp only [List.append_assoc]
theorem hd_not {j : J} (h : isT j = false) : hd j = .none := by cases j <;> first | rfl | (cases h)
theorem FO_gather_eq : ∀ (n : Nat) (p : List Nm) (a b : J), p.length + n ≤ 1000 → depth b < n → depth b ≤ 64 → size a ≤ 1000000 → size b ≤ 1000000 → gOk (FO_gather n) p a b (gth n p a b)
  | 0, _, _, _, _, h, _, _, _ => absurd h (Nat.not_lt_zero _)
  | n + 1, p, a, b, hp, h, hd1, sa, sb => by
    intro L hL
    have hal := F_alike_eq 70 a b (by omega) hd1 sa
    show runO 4 (b_gather (F_alike 70) (runO 5 (b_gather_members F_named (FO_gather n))) (runO 5 (b_gather_row (FO_gather n) F_figures))) L [pathD p, enc a, enc b] = _
    have hst : (none :: startD 4 [pathD p, enc a, enc b]) = [none, some (pathD p), some (enc a), some (enc b), none] := rfl
    by_cases c : alk a b = true
    · rw [c] at hal
      have e : gth (n + 1) p a b = [] := by unfold gth; rw [if_pos c]
      refine runO_rt ?_
      rw [hst, e]
      unfold b_gather
      refine (sSeq_rt (d := .none) (s' := L) (by simp [hal])).trans ?_
      simp
    · have e : gth (n + 1) p a b = gthS (gth n) p a b := by unfold gth; rw [if_neg c]
      have c' : alk a b = false := by simpa using c
      rw [c'] at hal
      rw [e] at hL ⊢
      refine runO_rt ?_
      rw [hst]
      unfold b_gather
      rw [sSeq_nx (D' := [none, some (pathD p), some (enc a), some (enc b), none]) (s' := L) (by simp [hal])]
      rw [sSeq_nx (D' := [none, some (pathD p), some (enc a), some (enc b), some (.tuple [.str "", .str ""])]) (s' := L) (by simp)]
      match a, b with
      | .fld ms, .fld ms' =>
        rw [sSeq_nx (D' := [none, some (pathD p), some (enc (.fld ms)), some (enc (.fld ms')), some (.tuple [.str "fields", .str "fields"])]) (s' := L) (by simp [isT, enc_fld])]
        have hq : gEq (.tuple [.str "fields", .str "fields"]) (.tuple [.str "fields", .str "fields"]) = some (.bool true) := gEq_wd2 .fields .fields .fields .fields
        have hm := gather_members_eq n p (by omega) ms ms' (fun m hm v hv => by
          have h1 := size_memf hm
          have h2 := lk_mem hv
          have h3 : size v < size (.fld ms') := size_memf h2
          have h4 : depth v < depth (.fld ms') := depth_memf h2
          exact FO_gather_eq n (p ++ [m.1]) m.2 v (by rw [List.length_append, List.length_singleton]; omega) (by omega) (by omega) (by omega) (by omega)) L hL
        rw [sSeq_nx (D' := [none, some (pathD p), some (enc (.fld ms)), some (enc (.fld ms')), some (.tuple [.str "fields", .str "fields"])]) (s' := L ++ (gthS (gth n) p (.fld ms) (.fld ms')).map encD) (by simp [hq, enc_fld, cloO_s (n := 3) rfl hm])]
        simp
      | .row xs, .row ys =>
        have l1 := len_row xs
        have l2 := len_row ys
        rw [sSeq_nx (D' := [none, some (pathD p), some (enc (.row xs)), some (enc (.row ys)), some (.tuple [.str "row", .str "row"])]) (s' := L) (by simp [isT, enc_row])]
        have hq1 : gEq (.tuple [.str "row", .str "row"]) (.tuple [.str "fields", .str "fields"]) = some (.bool false) := gEq_wd2 .row .row .fields .fields
        have hq : gEq (.tuple [.str "row", .str "row"]) (.tuple [.str "row", .str "row"]) = some (.bool true) := gEq_wd2 .row .row .row .row
        have hm := gather_row_eq n p (by omega) xs ys (by omega) (by omega) (fun x hx y hy q => by
          have h1 := size_mem hx
          have h3 := size_mem hy
          have h4 := depth_mem hy
          exact FO_gather_eq n (p ++ [q]) x y (by rw [List.length_append, List.length_singleton]; omega) (by omega) (by omega) (by omega) (by omega)) L hL
        rw [sSeq_nx (D' := [none, some (pathD p), some (enc (.row xs)), some (enc (.row ys)), some (.tuple [.str "row", .str "row"])]) (s' := L ++ (gthS (gth n) p (.row xs) (.row ys)).map encD) (by simp [hq, hq1, enc_row, cloO_s (n := 3) rfl hm])]
        simp
      | .non, b => exact gather_rep n p .non b L hL (fun z => nomatch z.1) (fun z => nomatch z.1)
      | .bl u, b => exact gather_rep n p (.bl u) b L hL (fun z => nomatch z.1) (fun z => nomatch z.1)
      | .num u v, b => exact gather_rep n p (.num u v) b L hL (fun z => nomatch z.1) (fun z => nomatch z.1)
      | .txt u, b => exact gather_rep n p (.txt u) b L hL (fun z => nomatch z.1) (fun z => nomatch z.1)
      | .row u, .non => exact gather_rep n p (.row u) _ L hL (fun z => nomatch z.2) (fun z => nomatch z.2)
      | .row u, .bl _ => exact gather_rep n p (.row u) _ L hL (fun z => nomatch z.2) (fun z => nomatch z.2)
      | .row u, .num _ _ => exact gather_rep n p (.row u) _ L hL (fun z => nomatch z.2) (fun z => nomatch z.2)
      | .row u, .txt _ => exact gather_rep n p (.row u) _ L hL (fun z => nomatch z.2) (fun z => nomatch z.2)
      | .row u, .fld _ => exact gather_rep n p (.row u) _ L hL (fun z => nomatch z.2) (fun z => nomatch z.1)
      | .fld u, .non => exact gather_rep n p (.fld u) _ L hL (fun z => nomatch z.2) (fun z => nomatch z.2)
      | .fld u, .bl _ => exact gather_rep n p (.fld u) _ L hL (fun z => nomatch z.2) (fun z => nomatch z.2)
      | .fld u, .num _ _ => exact gather_rep n p (.fld u) _ L hL (fun z => nomatch z.2) (fun z => nomatch z.2)
      | .fld u, .txt _ => exact gather_rep n p (.fld u) _ L hL (fun z => nomatch z.2) (fun z => nomatch z.2)
      | .fld u, .row _ => exact gather_rep n p (.fld u) _ L hL (fun z => nomatch z.1) (fun z => nomatch z.2)
where
  gather_rep (n : Nat) (p : List Nm) (a b : J) (L : List PyData) (hL : L.length + (gthS (gth n) p a b).length ≤ 16777216) (h1 : ¬ (hd a = .row ∧ hd b = .row)) (h2 : ¬ (hd a = .fields ∧ hd b = .fields)) :
      (sSeq (sIf (fAndT (fTru (fUn gIsTup (fVar 2))) (fTru (fUn gIsTup (fVar 3))))
  (sAsg 4 (fTup (fCons (fBin gIx (fVar 2) (fC (.int 0))) (fCons (fBin gIx (fVar 3) (fC (.int 0))) fNil))))
  sNil)
  (sSeq (sIf (fTst (fBin gEq (fVar 4) (fTup (fCons (fC (.str "fields")) (fCons (fC (.str "fields")) fNil)))))
  (sCallO 3 (runO 5 (b_gather_members F_named (FO_gather n))) (fCons (fVar 1) (fCons (fBin gIx (fVar 2) (fC (.int 1))) (fCons (fBin gIx (fVar 3) (fC (.int 1))) fNil))))
  (sIf (fTst (fBin gEq (fVar 4) (fTup (fCons (fC (.str "row")) (fCons (fC (.str "row")) fNil)))))
  (sCallO 3 (runO 5 (b_gather_row (FO_gather n) F_figures)) (fCons (fVar 1) (fCons (fBin gIx (fVar 2) (fC (.int 1))) (fCons (fBin gIx (fVar 3) (fC (.int 1))) fNil))))
  (sApp (fTup (fCons (fC (.str "replace")) (fCons (fVar 1) (fCons (fVar 3) fNil)))))))
  (sRet (fC .none)))) [none, some (pathD p), some (enc a), some (enc b), some (.tuple [.str "", .str ""])] L = some (.rt .none (L ++ (gthS (gth n) p a b).map encD)) := by
    rw [gthS_rep h1 h2] at hL ⊢
    have hL' : L.length + 1 ≤ 16777216 := hL
    obtain ⟨w1, w2, hw, c1, c2⟩ : ∃ w1 w2 : Wd, (sIf (fAndT (fTru (fUn gIsTup (fVar 2))) (fTru (fUn gIsTup (fVar 3)))) (sAsg 4 (fTup (fCons (fBin gIx (fVar 2) (fC (.int 0))) (fCons (fBin gIx (fVar 3) (fC (.int 0))) fNil)))) sNil) [none, some (pathD p), some (enc a), some (enc b), some (.tuple [.str "", .str ""])] L = some (.nx [none, some (pathD p), some (enc a), some (enc b), some (.tuple [.str w1.s, .str w2.s])] L) ∧ ¬ (w1 = .row ∧ w2 = .row) ∧ ¬ (w1 = .fields ∧ w2 = .fields) := by
      cases ha : isT a with
      | false => exact ⟨.none, .none, by simp [ha, Wd.s], by decide, by decide⟩
      | true =>
        cases hb : isT b with
        | false => exact ⟨.none, .none, by simp [ha, hb, Wd.s], by decide, by decide⟩
        | true =>
          have e0 := enc_0 a ha
          have e1 := enc_0 b hb
          exact ⟨hd a, hd b, by simp [ha, hb, e0, e1], h1, h2⟩
    rw [sSeq_nx hw]
    have q1 : gEq (.tuple [.str w1.s, .str w2.s]) (.tuple [.str "fields", .str "fields"]) = some (.bool false) := by
      have := gEq_wd2 w1 w2 .fields .fields
      rw [decide_eq_false c2] at this
      exact this
    have q2 : gEq (.tuple [.str w1.s, .str w2.s]) (.tuple [.str "row", .str "row"]) = some (.bool false) := by
      have := gEq_wd2 w1 w2 .row .row
      rw [decide_eq_false c1] at this
      exact this
    rw [sSeq_nx (D' := [none, some (pathD p), some (enc a), some (enc b), some (.tuple [.str w1.s, .str w2.s])]) (s' := L ++ [encD (.rep p b)]) (by simp [q1, q2, appO_s hL', encD])]
    simp
end Pl

namespace Pl
open PySem DL Pg
/-! ### between -/
def wg : Dd → Nat
  | .add _ v => 1 + size v
  | .rep _ v => 1 + size v
  | _ => 1
def ws (l : List Dd) : Nat := (l.map wg).sum
theorem ws_app (a b : List Dd) : ws (a ++ b) = ws a + ws b := by unfold ws; rw [List.map_append, List.sum_append]
theorem ws_len (l : List Dd) : l.length ≤ ws l := by
  have := sum_ge (l := l.map wg) fun a ha => by
    obtain ⟨d, _, rfl⟩ := List.mem_map.mp ha
    cases d <;> simp [wg]
  rw [List.length_map] at this
  exact this
theorem ws_fm {α : Type} (f : α → List Dd) (g : α → Nat) : ∀ (l : List α), (∀ x ∈ l, ws (f x) ≤ g x) → ws (l.flatMap f) ≤ (l.map g).sum
  | [], _ => Nat.le_refl _
  | x :: l, h => by
    rw [List.flatMap_cons, ws_app, List.map_cons, List.sum_cons]
    have h1 := h x List.mem_cons_self
    have h2 := ws_fm f g l fun y hy => h y (List.mem_cons_of_mem _ hy)
    omega
theorem sum_mul {α : Type} (f : α → Nat) (N : Nat) : ∀ l : List α, (l.map fun x => f x * N).sum = (l.map f).sum * N
  | [] => by simp
  | x :: l => by rw [List.map_cons, List.sum_cons, List.map_cons, List.sum_cons, sum_mul f N l, Nat.add_mul]
theorem sum_mono {α : Type} (f g : α → Nat) : ∀ l : List α, (∀ x ∈ l, f x ≤ g x) → (l.map f).sum ≤ (l.map g).sum
  | [], _ => Nat.le_refl _
  | x :: l, h => by
    rw [List.map_cons, List.sum_cons, List.map_cons, List.sum_cons]
    have h1 := h x List.mem_cons_self
    have h2 := sum_mono f g l fun y hy => h y (List.mem_cons_of_mem _ hy)
    omega
theorem range_take {α : Type} (f : α → Nat) (xs : List α) (s : Nat) (hs : s ≤ xs.length) : ((List.range s).map fun k => match xs[k]? with
    | some x => f x
    | none => 0) = (xs.take s).map f := by
  refine List.ext_getElem (by simp; omega) fun i h1 h2 => ?_
  have hi : i < s := by simpa using h1
  simp [List.getElem?_eq_getElem (show i < xs.length by omega)]
theorem range_drop {α : Type} (f : α → Nat) (xs : List α) (s : Nat) (hs : s ≤ xs.length) : ((List.range (xs.length - s)).map fun k => match xs[s + k]? with
    | some x => f x
    | none => 0) = (xs.drop s).map f := by
  refine List.ext_getElem (by simp) fun i h1 h2 => ?_
  have hi : i < xs.length - s := by simpa using h1
  simp [List.getElem?_eq_getElem (show s + i < xs.length by omega)]
theorem sum_td {α : Type} (f : α → Nat) (xs : List α) (s : Nat) : ((xs.take s).map f).sum + ((xs.drop s).map f).sum = (xs.map f).sum := by
  rw [← List.sum_append, ← List.map_append, List.take_append_drop]
theorem gthS_row {r : List Nm → J → J → List Dd} {p : List Nm} {xs ys : List J} {s : Nat} (h : min xs.length ys.length = s) : gthS r p (.row xs) (.row ys) = (List.range s).flatMap (gthR r p xs ys) ++ ((List.range (xs.length - s)).flatMap (gthX p xs.length) ++ (List.range (ys.length - s)).flatMap fun k => gthY p ys (s + k)) := by
  subst h
  rfl
theorem gth_ws : ∀ (n : Nat) (p : List Nm) (a b : J) (N : Nat), 2 * size b ≤ N → ws (gth n p a b) ≤ size a * N
  | 0, _, _, _, _, _ => Nat.zero_le _
  | n + 1, p, a, b, N, hN => by
    unfold gth
    by_cases c : alk a b = true
    · rw [if_pos c]; exact Nat.zero_le _
    rw [if_neg c]
    have rep : ∀ a b : J, 2 * size b ≤ N → ws [Dd.rep p b] ≤ size a * N := fun a b hN => by
      have h1 := size_pos a
      have h2 := size_pos b
      have h3 : N ≤ size a * N := Nat.le_mul_of_pos_left N h1
      have h4 : ws [Dd.rep p b] = 1 + size b := by simp [ws, wg]
      omega
    by_cases c1 : hd a = .row ∧ hd b = .row
    · cases a with
      | row xs =>
        cases b with
        | row ys =>
          obtain ⟨s, hs⟩ : ∃ s, min xs.length ys.length = s := ⟨_, rfl⟩
          rw [gthS_row hs]
          have hsx : s ≤ xs.length := by omega
          have hsy : s ≤ ys.length := by omega
          rw [ws_app, ws_app]
          rw [size_row] at hN
          have hN1 : 1 ≤ N := by omega
          have h1 : ws ((List.range s).flatMap (gthR (gth n) p xs ys)) ≤ ((xs.take s).map fun x => size x * N).sum := by
            rw [← range_take (fun x => size x * N) xs s hsx]
            refine ws_fm _ _ _ fun k hk => ?_
            have hk' := List.mem_range.mp hk
            unfold gthR
            rw [List.getElem?_eq_getElem (show k < xs.length by omega), List.getElem?_eq_getElem (show k < ys.length by omega)]
            have h5 := sum_mem (List.mem_map_of_mem (f := size) (List.getElem_mem (show k < ys.length by omega)))
            exact gth_ws n _ _ _ N (by omega)
          have h2 : ws ((List.range (xs.length - s)).flatMap (gthX p xs.length)) ≤ ((xs.drop s).map fun x => size x * N).sum := by
            have e := range_drop (fun x => size x * N) xs s hsx
            rw [← e]
            refine ws_fm _ _ _ fun k hk => ?_
            have hk' := List.mem_range.mp hk
            rw [List.getElem?_eq_getElem (show s + k < xs.length by omega)]
            have h5 := Nat.le_mul_of_pos_left N (size_pos (xs[s + k]'(by omega)))
            have h6 : ws (gthX p xs.length k) = 1 := by simp [ws, wg, gthX]
            show ws (gthX p xs.length k) ≤ size (xs[s + k]'(by omega)) * N
            omega
          have h3 : ws ((List.range (ys.length - s)).flatMap fun k => gthY p ys (s + k)) ≤ ((ys.drop s).map fun x => size x * 2).sum := by
            have e := range_drop (fun x => size x * 2) ys s hsy
            rw [← e]
            refine ws_fm _ _ _ fun k hk => ?_
            have hk' := List.mem_range.mp hk
            unfold gthY
            rw [List.getElem?_eq_getElem (show s + k < ys.length by omega)]
            have h5 := size_pos (ys[s + k]'(by omega))
            simp only [ws, wg, List.map_cons, List.map_nil, List.sum_cons, List.sum_nil]
            omega
          rw [sum_mul size 2] at h3
          have h4 := sum_td size ys s
          have h5 := sum_td (fun x => size x * N) xs s
          rw [sum_mul size N xs] at h5
          rw [size_row, Nat.add_mul]
          omega
        | _ => exact absurd c1.2 (fun z => nomatch z)
      | _ => exact absurd c1.1 (fun z => nomatch z)
    · by_cases c2 : hd a = .fields ∧ hd b = .fields
      · cases a with
        | fld ms =>
          cases b with
          | fld ms' =>
            unfold gthS
            rw [ws_app]
            rw [size_fld] at hN
            have h1 : ws (ms.flatMap (gthF (gth n) p ms')) ≤ (ms.map fun m => size m.2 * N).sum := by
              refine ws_fm _ _ _ fun m hm => ?_
              unfold gthF
              cases hl : lk m.1 ms' with
              | none =>
                have h5 := Nat.le_mul_of_pos_left N (size_pos m.2)
                simp only [ws, wg, List.map_cons, List.map_nil, List.sum_cons, List.sum_nil]
                omega
              | some v =>
                have h5 : size (m.1, v).2 ≤ _ := sum_mem (List.mem_map_of_mem (f := fun m : Nm × J => size m.2) (lk_mem hl))
                have h6 : size (m.1, v).2 = size v := rfl
                exact gth_ws n _ _ _ N (by omega)
            have h2 : ws (ms'.flatMap (gthA p ms)) ≤ (ms'.map fun m => size m.2 * 2).sum := by
              refine ws_fm _ _ _ fun m hm => ?_
              unfold gthA
              have h5 := size_pos m.2
              split
              · simp only [ws, wg, List.map_cons, List.map_nil, List.sum_cons, List.sum_nil]
                omega
              · exact Nat.zero_le _
            rw [sum_mul (fun m : Nm × J => size m.2) N] at h1
            rw [sum_mul (fun m : Nm × J => size m.2) 2] at h2
            rw [size_fld, Nat.add_mul]
            omega
          | _ => exact absurd c2.2 (fun z => nomatch z)
        | _ => exact absurd c2.1 (fun z => nomatch z)
      · rw [gthS_rep c1 c2]
        exact rep a b hN
theorem F_between_eq (a b : J) (h : depth b ≤ 64) (sa : size a ≤ 300) (sb : size b ≤ 300) : F_between [enc a, enc b] = some (.list ((gth 70 [] a b).map encD)) := by
  have hw := gth_ws 70 [] a b 600 (by omega)
  have hl := ws_len (gth 70 [] a b)
  have hm : size a * 600 ≤ 300 * 600 := Nat.mul_le_mul_right 600 sa
  have hg := FO_gather_eq 70 [] a b (by simp) (by omega) h (by omega) (by omega) [] (by simp; omega)
  refine runF_rt ?_
  show b_between (FO_gather 70) [some (enc a), some (enc b), none] () = _
  unfold b_between sNewL
  have e : (sSeq (sCallO 3 (FO_gather 70) (fCons (fTup fNil) (fCons (fVar 0) (fCons (fVar 1) fNil)))) sRo : FS (List PyData)) [some (enc a), some (enc b), none] [] = some (.ro ((gth 70 [] a b).map encD)) := by
    rw [sSeq_nx (D' := [some (enc a), some (enc b), none]) (s' := (gth 70 [] a b).map encD)]
    · rfl
    · rw [List.nil_append] at hg
      have hg' : FO_gather 70 [] [.tuple [], enc a, enc b] = some ((gth 70 [] a b).map encD) := hg
      simp [cloO_s (n := 3) rfl hg']
  rw [fNil_ap, Option.bind_some, if_pos ⟨small (Nat.zero_le _), by show 2 < 3; decide⟩]
  have e2 : (List.set [some (enc a), some (enc b), none] 2 none) = [some (enc a), some (enc b), none] := rfl
  rw [e2, e]
/-! ### shapes and paths -/
def pth : Dd → List Nm
  | .add p _ => p | .rem p => p | .rep p _ => p | .mv p _ => p | .cp p _ => p | .tst p _ => p
inductive Sd : List Nm → Nat → Dd → Prop
  | add {p q v N} : q ≠ [] → q.length ≤ N → Sd p N (.add (p ++ q) v)
  | rem {p q N} : q ≠ [] → q.length ≤ N → Sd p N (.rem (p ++ q))
  | rep {p q v N} : q.length ≤ N → Sd p N (.rep (p ++ q) v)
theorem Sd.up {p : List Nm} {x : Nm} {N M : Nat} {d : Dd} (h : Sd (p ++ [x]) N d) (hM : N + 1 ≤ M) : Sd p M d := by
  cases h with
  | add h1 h2 => rw [List.append_assoc]; exact .add (by simp) (by simp; omega)
  | rem h1 h2 => rw [List.append_assoc]; exact .rem (by simp) (by simp; omega)
  | rep h2 => rw [List.append_assoc]; exact .rep (by simp; omega)
theorem depth_pos_row (xs : List J) : 1 ≤ depth (.row xs) := by rw [depth_row]; omega
theorem depth_pos_fld (xs : List (Nm × J)) : 1 ≤ depth (.fld xs) := by rw [depth_fld]; omega
theorem gth_sd : ∀ (n : Nat) (p : List Nm) (a b : J), ∀ d ∈ gth n p a b, Sd p (depth a) d
  | 0, _, _, _, d, h => nomatch h
  | n + 1, p, a, b, d, h => by
    unfold gth at h
    by_cases c : alk a b = true
    · rw [if_pos c] at h; cases h
    rw [if_neg c] at h
    by_cases c1 : hd a = .row ∧ hd b = .row
    · cases a with
      | row xs =>
        cases b with
        | row ys =>
          have dp := depth_pos_row xs
          unfold gthS at h
          rcases List.mem_append.mp h with h | h
          · obtain ⟨k, hk, h⟩ := List.mem_flatMap.mp h
            have hk' := List.mem_range.mp hk
            unfold gthR at h
            rw [List.getElem?_eq_getElem (show k < xs.length by omega), List.getElem?_eq_getElem (show k < ys.length by omega)] at h
            have h2 := depth_mem (List.getElem_mem (show k < xs.length by omega))
            exact (gth_sd n _ _ _ d h).up (by omega)
          · rcases List.mem_append.mp h with h | h
            · obtain ⟨k, hk, h⟩ := List.mem_flatMap.mp h
              have e := List.mem_singleton.mp h
              subst e
              exact .rem (by simp) (by simp; omega)
            · obtain ⟨k, hk, h⟩ := List.mem_flatMap.mp h
              unfold gthY at h
              split at h
              · have e := List.mem_singleton.mp h
                subst e
                exact .add (by simp) (by simp; omega)
              · cases h
        | _ => exact absurd c1.2 (fun z => nomatch z)
      | _ => exact absurd c1.1 (fun z => nomatch z)
    · by_cases c2 : hd a = .fields ∧ hd b = .fields
      · cases a with
        | fld ms =>
          cases b with
          | fld ms' =>
            have dp := depth_pos_fld ms
            unfold gthS at h
            rcases List.mem_append.mp h with h | h
            · obtain ⟨m, hm, h⟩ := List.mem_flatMap.mp h
              unfold gthF at h
              split at h
              · have e := List.mem_singleton.mp h
                subst e
                exact .rem (by simp) (by simp; omega)
              · have h2 := depth_memf hm
                exact (gth_sd n _ _ _ d h).up (by omega)
            · obtain ⟨m, hm, h⟩ := List.mem_flatMap.mp h
              unfold gthA at h
              split at h
              · have e := List.mem_singleton.mp h
                subst e
                exact .add (by simp) (by simp; omega)
              · cases h
          | _ => exact absurd c2.2 (fun z => nomatch z)
        | _ => exact absurd c2.1 (fun z => nomatch z)
      · rw [gthS_rep c1 c2] at h
        have e := List.mem_singleton.mp h
        subst e
        have := Sd.rep (p := p) (q := []) (v := b) (N := depth a) (Nat.zero_le _)
        rw [List.append_nil] at this
        exact this
theorem Sd.pth {p : List Nm} {N : Nat} {d : Dd} (h : Sd p N d) : ∃ q, Pl.pth d = p ++ q ∧ q.length ≤ N := by
  cases h with
  | add h1 h2 => exact ⟨_, rfl, h2⟩
  | rem h1 h2 => exact ⟨_, rfl, h2⟩
  | rep h2 => exact ⟨_, rfl, h2⟩
end Pl

namespace Pl
open PySem DL Pg
/-! ### no deeds: alike; and where the deeds lie -/
theorem two (a b : J) : (∃ xs ys, a = .row xs ∧ b = .row ys) ∨ (∃ ms ms', a = .fld ms ∧ b = .fld ms') ∨ (¬ (hd a = .row ∧ hd b = .row) ∧ ¬ (hd a = .fields ∧ hd b = .fields)) := by
  cases a <;> cases b <;> simp [hd]
theorem alk_row_of {xs ys : List J} (hl : xs.length = ys.length) (h : ∀ (i : Nat) (x y : J), xs[i]? = some x → ys[i]? = some y → alk x y = true) : alk (.row xs) (.row ys) = true := by
  rw [alk_row, decide_eq_true hl, Bool.true_and, List.all_eq_true]
  intro c hc
  obtain ⟨i, hi, rfl⟩ := List.mem_iff_getElem.mp hc
  rw [List.getElem_zipWith]
  have h1 : i < xs.length := by rw [List.length_zipWith] at hi; omega
  exact h i _ _ (List.getElem?_eq_getElem h1) (List.getElem?_eq_getElem (by omega))
theorem nodup_sub {α : Type} [DecidableEq α] : ∀ {a b : List α}, a.Nodup → (∀ x ∈ a, x ∈ b) → a.length ≤ b.length
  | [], _, _, _ => Nat.zero_le _
  | x :: a, b, nd, h => by
    rw [List.nodup_cons] at nd
    have hx := h x List.mem_cons_self
    have h1 := nodup_sub (b := b.erase x) nd.2 fun y hy => by
      have : y ≠ x := fun e => nd.1 (e ▸ hy)
      exact (List.mem_erase_of_ne this).mpr (h y (List.mem_cons_of_mem _ hy))
    have h2 := List.length_erase_of_mem hx
    have h3 := List.length_pos_of_mem hx
    rw [List.length_cons]
    omega
theorem nodup_len {α : Type} [DecidableEq α] {a b : List α} (ha : a.Nodup) (hb : b.Nodup) (h : ∀ x, x ∈ a ↔ x ∈ b) : a.length = b.length :=
  Nat.le_antisymm (nodup_sub ha fun x => (h x).mp) (nodup_sub hb fun x => (h x).mpr)
theorem lk_names {n : Nm} {ms : List (Nm × J)} : (lk n ms).isSome = true ↔ n ∈ ms.map (·.1) := by
  constructor
  · intro h
    obtain ⟨v, hv⟩ := Option.isSome_iff_exists.mp h
    exact List.mem_map_of_mem (f := (·.1)) (lk_mem hv)
  · intro h
    cases hl : lk n ms with
    | some v => rfl
    | none =>
      obtain ⟨m, hm, e⟩ := List.mem_map.mp h
      exact absurd e (lk_none.mp hl m hm)
theorem alk_fld_of {ms ms' : List (Nm × J)} (n1 : (ms.map (·.1)).Nodup) (n2 : (ms'.map (·.1)).Nodup) (h1 : ∀ m ∈ ms, alkM ms' m = true) (h2 : ∀ m ∈ ms', (lk m.1 ms).isSome = true) : alk (.fld ms) (.fld ms') = true := by
  have hl : ms.length = ms'.length := by
    have := nodup_len n1 n2 fun x => by
      constructor
      · intro hx
        obtain ⟨m, hm, rfl⟩ := List.mem_map.mp hx
        have := h1 m hm
        unfold alkM at this
        cases hl : lk m.1 ms' with
        | none => rw [hl] at this; cases this
        | some v => exact lk_names.mp (by rw [hl]; rfl)
      · intro hx
        obtain ⟨m, hm, rfl⟩ := List.mem_map.mp hx
        exact lk_names.mp (h2 m hm)
    rw [List.length_map, List.length_map] at this
    exact this
  rw [alk_fld, decide_eq_true hl, Bool.true_and, List.all_eq_true]
  exact h1
theorem alk_refl {j : J} (h : Clean j) : alk j j = true := by
  induction h with
  | non => exact alk_non
  | bl b => rw [alk_bl]; simp
  | num a b => rw [alk_num]; simp
  | txt cs => rw [alk_txt]; simp
  | row hx ih =>
    refine alk_row_of rfl fun i x y h1 h2 => ?_
    rw [h1] at h2
    cases h2
    exact ih x (List.mem_of_getElem? h1)
  | fld nd hx ih =>
    refine alk_fld_of nd nd (fun m hm => ?_) fun m hm => ?_
    · unfold alkM
      rw [lk_of_mem nd hm]
      exact ih m hm
    · rw [lk_of_mem nd hm]; rfl
theorem fm_nil {α β : Type} {f : α → List β} {l : List α} (h : l.flatMap f = []) : ∀ x ∈ l, f x = [] := List.flatMap_eq_nil_iff.mp h
theorem gth_nil : ∀ (n : Nat) (p : List Nm) (a b : J), depth b < n → Clean a → Clean b → gth n p a b = [] → alk a b = true
  | 0, _, _, _, h, _, _, _ => absurd h (Nat.not_lt_zero _)
  | n + 1, p, a, b, h, ca, cb, hg => by
    unfold gth at hg
    by_cases c : alk a b = true
    · exact c
    rw [if_neg c] at hg
    rcases two a b with ⟨xs, ys, rfl, rfl⟩ | ⟨ms, ms', rfl, rfl⟩ | ⟨c1, c2⟩
    · obtain ⟨s, hs⟩ : ∃ s, min xs.length ys.length = s := ⟨_, rfl⟩
      rw [gthS_row hs] at hg
      obtain ⟨g1, g23⟩ := List.append_eq_nil_iff.mp hg
      obtain ⟨g2, g3⟩ := List.append_eq_nil_iff.mp g23
      have l1 : ¬ s < xs.length := fun hl => by
        have := fm_nil g2 0 (List.mem_range.mpr (by omega))
        cases this
      have l2 : ¬ s < ys.length := fun hl => by
        have := fm_nil g3 0 (List.mem_range.mpr (by omega))
        unfold gthY at this
        rw [List.getElem?_eq_getElem (show s + 0 < ys.length by omega)] at this
        cases this
      cases ca with
      | row cx =>
        cases cb with
        | row cy =>
          refine alk_row_of (by omega) fun i x y h1 h2 => ?_
          have hi := (List.getElem?_eq_some_iff.mp h1).1
          have h3 := fm_nil g1 i (List.mem_range.mpr (by omega))
          unfold gthR at h3
          rw [h1, h2] at h3
          have m1 := List.mem_of_getElem? h1
          have m2 := List.mem_of_getElem? h2
          have d2 := depth_mem m2
          exact gth_nil n _ x y (by omega) (cx x m1) (cy y m2) h3
    · obtain ⟨g1, g2⟩ := List.append_eq_nil_iff.mp (show ms.flatMap (gthF (gth n) p ms') ++ ms'.flatMap (gthA p ms) = [] from hg)
      cases ca with
      | fld nx cx =>
        cases cb with
        | fld ny cy =>
          refine alk_fld_of nx ny (fun m hm => ?_) fun m hm => ?_
          · have h3 := fm_nil g1 m hm
            unfold gthF at h3
            unfold alkM
            cases hl : lk m.1 ms' with
            | none => rw [hl] at h3; cases h3
            | some v =>
              rw [hl] at h3
              have m2 := lk_mem hl
              have d2 : depth v < depth (.fld ms') := depth_memf m2
              exact gth_nil n _ m.2 v (by omega) (cx m hm) (cy _ m2) h3
          · have h3 := fm_nil g2 m hm
            unfold gthA at h3
            cases hl : lk m.1 ms with
            | none => rw [hl] at h3; cases h3
            | some v => rfl
    · rw [gthS_rep c1 c2] at hg
      cases hg
theorem gth_alk (n : Nat) (p : List Nm) (a b : J) (h : alk a b = true) : gth n p a b = [] := by
  cases n with
  | zero => rfl
  | succ n => unfold gth; rw [if_pos h]
/-! members alone on the way -/
def fgt : J → List Nm → Option J
  | j, [] => some j
  | .fld ms, n :: r => (lk n ms).bind fun c => fgt c r
  | _, _ => none
theorem fgt_cons {j : J} {n : Nm} {r : List Nm} {v : J} (h : fgt j (n :: r) = some v) : ∃ ms c, j = .fld ms ∧ lk n ms = some c ∧ fgt c r = some v := by
  cases j with
  | fld ms =>
    unfold fgt at h
    obtain ⟨c, h1, h2⟩ := bind_some h
    exact ⟨ms, c, rfl, h1, h2⟩
  | _ => cases h
theorem gth_named : ∀ (n : Nat) (p q : List Nm) (a b v w : J), Clean a → fgt a q = some v → fgt b q = some w → alk v w = true → ∀ d ∈ gth n p a b, pth d ≠ p ++ q
  | n, p, [], a, b, v, w, _, h1, h2, hv, d, hd => by
    have e1 : a = v := Option.some.inj h1
    have e2 : b = w := Option.some.inj h2
    subst e1
    subst e2
    rw [gth_alk n p a b hv] at hd
    cases hd
  | 0, _, _ :: _, _, _, _, _, _, _, _, _, d, hd => nomatch hd
  | n + 1, p, n0 :: r, a, b, v, w, ca, h1, h2, hv, d, hd => by
    obtain ⟨ms, c, rfl, l1, g1⟩ := fgt_cons h1
    obtain ⟨ms', c', rfl, l2, g2⟩ := fgt_cons h2
    unfold gth at hd
    by_cases ha : alk (.fld ms) (.fld ms') = true
    · rw [if_pos ha] at hd; cases hd
    rw [if_neg ha] at hd
    have hd' : d ∈ ms.flatMap (gthF (gth n) p ms') ++ ms'.flatMap (gthA p ms) := hd
    intro e
    cases ca with
    | fld nx cx =>
      rcases List.mem_append.mp hd' with hd | hd
      · obtain ⟨m, hm, hd⟩ := List.mem_flatMap.mp hd
        unfold gthF at hd
        cases hl : lk m.1 ms' with
        | none =>
          rw [hl] at hd
          have e2 := List.mem_singleton.mp hd
          subst e2
          have e3 : [m.1] = n0 :: r := List.append_cancel_left (as := p) e
          have e4 : m.1 = n0 := by simpa using (List.cons.inj e3).1
          rw [e4, l2] at hl
          cases hl
        | some v' =>
          rw [hl] at hd
          obtain ⟨q', hq, _⟩ := (gth_sd n _ _ _ d hd).pth
          have e3 : [m.1] ++ q' = n0 :: r := by
            rw [e, List.append_assoc] at hq
            exact (List.append_cancel_left hq).symm
          have e4 : m.1 = n0 := (List.cons.inj e3).1
          have e5 := lk_of_mem nx hm
          rw [e4, l1] at e5
          have e6 : c = m.2 := Option.some.inj e5
          rw [e4, l2] at hl
          have e7 : c' = v' := Option.some.inj hl
          subst e7
          refine gth_named n (p ++ [m.1]) r m.2 c' v w (cx m hm) (e6 ▸ g1) g2 hv d hd ?_
          rw [e, List.append_assoc, e4]
          rfl
      · obtain ⟨m, hm, hd⟩ := List.mem_flatMap.mp hd
        unfold gthA at hd
        cases hl : lk m.1 ms with
        | some v' => rw [hl] at hd; cases hd
        | none =>
          rw [hl] at hd
          have e2 := List.mem_singleton.mp hd
          subst e2
          have e3 : [m.1] = n0 :: r := List.append_cancel_left (as := p) e
          have e4 : m.1 = n0 := by simpa using (List.cons.inj e3).1
          rw [e4, l1] at hl
          cases hl
/-! the same parts ahead of every path -/
def preD (p0 : List Nm) : Dd → Dd
  | .add p v => .add (p0 ++ p) v
  | .rem p => .rem (p0 ++ p)
  | .rep p v => .rep (p0 ++ p) v
  | .mv p g => .mv (p0 ++ p) (p0 ++ g)
  | .cp p g => .cp (p0 ++ p) (p0 ++ g)
  | .tst p v => .tst (p0 ++ p) v
theorem gth_pre : ∀ (n : Nat) (p0 p : List Nm) (a b : J), gth n (p0 ++ p) a b = (gth n p a b).map (preD p0)
  | 0, _, _, _, _ => rfl
  | n + 1, p0, p, a, b => by
    unfold gth
    by_cases c : alk a b = true
    · rw [if_pos c, if_pos c]; rfl
    rw [if_neg c, if_neg c]
    rcases two a b with ⟨xs, ys, rfl, rfl⟩ | ⟨ms, ms', rfl, rfl⟩ | ⟨c1, c2⟩
    · rw [gthS_row rfl, gthS_row rfl, List.map_append, List.map_append, map_fm, map_fm, map_fm]
      congr 1
      · congr 1
        funext k
        unfold gthR
        cases xs[k]? with
        | none => rfl
        | some x =>
          cases ys[k]? with
          | none => rfl
          | some y =>
            show gth n ((p0 ++ p) ++ [figs k]) x y = (gth n (p ++ [figs k]) x y).map (preD p0)
            rw [List.append_assoc, gth_pre n p0]
      · congr 1
        · congr 1
          funext k
          show [Dd.rem ((p0 ++ p) ++ [figs (xs.length - 1 - k)])] = [Dd.rem (p0 ++ (p ++ [figs (xs.length - 1 - k)]))]
          rw [List.append_assoc]
        · congr 1
          funext k
          unfold gthY
          cases ys[min xs.length ys.length + k]? with
          | none => rfl
          | some y =>
            show [Dd.add ((p0 ++ p) ++ [figs _]) y] = [Dd.add (p0 ++ (p ++ [figs _])) y]
            rw [List.append_assoc]
    · show ms.flatMap (gthF (gth n) (p0 ++ p) ms') ++ ms'.flatMap (gthA (p0 ++ p) ms) = (ms.flatMap (gthF (gth n) p ms') ++ ms'.flatMap (gthA p ms)).map (preD p0)
      rw [List.map_append, map_fm, map_fm]
      congr 1
      · congr 1
        funext m
        unfold gthF
        cases lk m.1 ms' with
        | none =>
          show [Dd.rem ((p0 ++ p) ++ [m.1])] = [Dd.rem (p0 ++ (p ++ [m.1]))]
          rw [List.append_assoc]
        | some v =>
          show gth n ((p0 ++ p) ++ [m.1]) m.2 v = (gth n (p ++ [m.1]) m.2 v).map (preD p0)
          rw [List.append_assoc, gth_pre n p0]
      · congr 1
        funext m
        unfold gthA
        cases lk m.1 ms with
        | some v => rfl
        | none =>
          show [Dd.add ((p0 ++ p) ++ [m.1]) m.2] = [Dd.add (p0 ++ (p ++ [m.1])) m.2]
          rw [List.append_assoc]
    · rw [gthS_rep c1 c2, gthS_rep c1 c2]
      rfl
end Pl

namespace Pl
open PySem DL Pg
/-! ### the deeds done -/
def ap : J → List Dd → Option J
  | j, [] => some j
  | j, d :: r => (dn j d).bind fun j' => ap j' r
theorem ap_app : ∀ (l1 l2 : List Dd) (j : J), ap j (l1 ++ l2) = (ap j l1).bind fun j' => ap j' l2
  | [], _, _ => rfl
  | d :: l1, l2, j => by
    rw [List.cons_append, ap, ap]
    cases dn j d with
    | none => rfl
    | some j' => exact ap_app l1 l2 j'
theorem dn_ctx (mk : J → J) (n : Nm) (h1 : ∀ x, child (mk x) n = some x) (h2 : ∀ x y, wt (mk x) n y = mk y) {N : Nat} {d : Dd} (hd : Sd [] N d) (c : J) : dn (mk c) (preD [n] d) = (dn c d).map mk := by
  have e : ∀ o : Option J, (o.map fun c' => wt (mk c) n c') = o.map mk := fun o => by cases o with
    | none => rfl
    | some x => rw [Option.map_some, Option.map_some, h2]
  cases hd with
  | @add q v _ h3 h4 =>
    cases q with
    | nil => exact absurd rfl h3
    | cons m r =>
      show ((child (mk c) n).bind fun x => (grow x (m :: r) v).map fun c' => wt (mk c) n c') = (grow c (m :: r) v).map mk
      rw [h1, Option.bind_some, e]
  | @rem q _ h3 h4 =>
    cases q with
    | nil => exact absurd rfl h3
    | cons m r =>
      show ((child (mk c) n).bind fun x => (wo x (m :: r)).map fun c' => wt (mk c) n c') = (wo c (m :: r)).map mk
      rw [h1, Option.bind_some, e]
  | @rep q v _ h3 =>
    show ((child (mk c) n).bind fun x => (rp x q v).map fun c' => wt (mk c) n c') = (rp c q v).map mk
    rw [h1, Option.bind_some, e]
theorem ap_ctx (mk : J → J) (n : Nm) (h1 : ∀ x, child (mk x) n = some x) (h2 : ∀ x y, wt (mk x) n y = mk y) {N : Nat} : ∀ (ds : List Dd) (c : J), (∀ d ∈ ds, Sd [] N d) → ap (mk c) (ds.map (preD [n])) = (ap c ds).map mk
  | [], _, _ => rfl
  | d :: r, c, h => by
    rw [List.map_cons, ap, ap, dn_ctx mk n h1 h2 (h d List.mem_cons_self)]
    cases dn c d with
    | none => rfl
    | some c' => exact ap_ctx mk n h1 h2 r c' fun x hx => h x (List.mem_cons_of_mem _ hx)
/-! at a member's and at an item's place -/
theorem fiN_mid {n : Nm} {c : J} {R : List (Nm × J)} : ∀ {D : List (Nm × J)}, (∀ m ∈ D, m.1 ≠ n) → fiN n (D ++ (n, c) :: R) = some D.length
  | [], _ => by
    show (if n = n then some 0 else _) = _
    rw [if_pos rfl]
    rfl
  | m :: D, h => by
    show (if m.1 = n then some 0 else (fiN n (D ++ (n, c) :: R)).map (· + 1)) = _
    rw [if_neg (h m List.mem_cons_self), fiN_mid fun x hx => h x (List.mem_cons_of_mem _ hx)]
    rfl
theorem mid_get {α : Type} (D R : List α) (c : α) : (D ++ c :: R)[D.length]? = some c := by simp
theorem mid_set {α : Type} (D R : List α) (c v : α) : (D ++ c :: R).set D.length v = D ++ v :: R := by simp
theorem child_midF {n : Nm} {c : J} {D R : List (Nm × J)} (h : ∀ m ∈ D, m.1 ≠ n) : child (.fld (D ++ (n, c) :: R)) n = some c := by
  rw [child_fld, fiN_mid h, Option.bind_some, mid_get]
  rfl
theorem wt_midF {n : Nm} {c v : J} {D R : List (Nm × J)} (h : ∀ m ∈ D, m.1 ≠ n) : wt (.fld (D ++ (n, c) :: R)) n v = .fld (D ++ (n, v) :: R) := by
  rw [wt_fld (fiN_mid h), mid_set]
theorem ixO_figs {xs : List J} {k : Nat} (h : k < xs.length) : ixO (.row xs) (figs k) = some k := by
  rw [ixO_row, plc_figs, if_pos (by omega), Int.toNat_natCast]
theorem child_midR {c : J} {D R : List J} : child (.row (D ++ c :: R)) (figs D.length) = some c := by
  rw [child_row, ixO_figs (by simp), Option.bind_some, mid_get]
theorem wt_midR {c v : J} {D R : List J} : wt (.row (D ++ c :: R)) (figs D.length) v = .row (D ++ v :: R) := by
  rw [wt_row (ixO_figs (by simp)), mid_set]
def Good (n : Nat) (a b : J) : Prop := ∃ a', ap a (gth n [] a b) = some a' ∧ alk a' b = true
theorem gth1 (n : Nat) (x : Nm) (a b : J) : gth n [x] a b = (gth n [] a b).map (preD [x]) := gth_pre n [x] [] a b
/-! the members -/
theorem mem_phase1 (n : Nat) (ms' : List (Nm × J)) : ∀ (R D : List (Nm × J)), ((D ++ R).map (·.1)).Nodup → (∀ m ∈ R, ∀ v, lk m.1 ms' = some v → Good n m.2 v) →
    ∃ D', ap (.fld (D ++ R)) (R.flatMap (gthF (gth n) [] ms')) = some (.fld (D ++ D')) ∧ (∀ m ∈ D', alkM ms' m = true) ∧ D'.map (·.1) = (R.map (·.1)).filter fun x => (lk x ms').isSome
  | [], D, _, _ => ⟨[], rfl, fun m hm => (by cases hm), rfl⟩
  | m :: R, D, nd, hg => by
    have hne : ∀ m' ∈ D, m'.1 ≠ m.1 := fun m' hm' e => by
      rw [List.map_append, List.nodup_append] at nd
      exact nd.2.2 _ (List.mem_map_of_mem (f := (·.1)) hm') _ (List.mem_map_of_mem (f := fun m : Nm × J => m.1) (List.mem_cons_self (a := m) (l := R))) e
    have hmm : m = (m.1, m.2) := rfl
    rw [List.flatMap_cons, ap_app]
    cases hl : lk m.1 ms' with
    | none =>
      have e : gthF (gth n) [] ms' m = [.rem [m.1]] := by unfold gthF; rw [hl]; rfl
      have e2 : ap (.fld (D ++ m :: R)) [.rem [m.1]] = some (.fld (D ++ R)) := by
        show ((child (.fld (D ++ (m.1, m.2) :: R)) m.1).map fun _ => del1 (.fld (D ++ (m.1, m.2) :: R)) m.1).bind (fun j' => ap j' []) = _
        rw [child_midF hne, Option.map_some, Option.bind_some, del1_fld (fiN_mid hne)]
        rw [List.eraseIdx_append_of_length_le (Nat.le_refl _), Nat.sub_self]
        rfl
      obtain ⟨D', h1, h2, h3⟩ := mem_phase1 n ms' R D (by
        refine List.Nodup.sublist ?_ nd
        refine List.Sublist.map _ ?_
        exact List.Sublist.append_left (List.sublist_cons_self m R) D) fun x hx => hg x (List.mem_cons_of_mem _ hx)
      refine ⟨D', ?_, h2, ?_⟩
      · rw [e, e2]
        exact h1
      · rw [h3, List.map_cons, List.filter_cons_of_neg (by simp [hl])]
    | some v =>
      obtain ⟨c', g1, g2⟩ := hg m List.mem_cons_self v hl
      have e : gthF (gth n) [] ms' m = (gth n [] m.2 v).map (preD [m.1]) := by unfold gthF; rw [hl]; exact gth1 n m.1 m.2 v
      have e2 : ap (.fld (D ++ m :: R)) ((gth n [] m.2 v).map (preD [m.1])) = some (.fld (D ++ (m.1, c') :: R)) := by
        have := ap_ctx (fun x => .fld (D ++ (m.1, x) :: R)) m.1 (fun x => child_midF hne) (fun x y => wt_midF hne) (gth n [] m.2 v) m.2 (gth_sd n [] m.2 v)
        rw [g1] at this
        exact this
      obtain ⟨D', h1, h2, h3⟩ := mem_phase1 n ms' R (D ++ [(m.1, c')]) (by
        rw [List.append_assoc, List.map_append]
        rw [List.map_append] at nd
        exact nd) fun x hx => hg x (List.mem_cons_of_mem _ hx)
      refine ⟨(m.1, c') :: D', ?_, ?_, ?_⟩
      · rw [e, e2, Option.bind_some]
        rw [List.append_assoc, List.append_assoc] at h1
        exact h1
      · intro x hx
        rcases List.mem_cons.mp hx with rfl | hx
        · unfold alkM
          rw [hl]
          exact g2
        · exact h2 x hx
      · rw [List.map_cons, h3, List.map_cons, List.filter_cons_of_pos (by simp [hl])]
theorem mem_phase2 (ms : List (Nm × J)) : ∀ (A cur : List (Nm × J)), (A.map (·.1)).Nodup → (∀ m ∈ A, lk m.1 ms = none → m.1 ∉ cur.map (·.1)) →
    ap (.fld cur) (A.flatMap (gthA [] ms)) = some (.fld (cur ++ A.filter fun m => (lk m.1 ms).isNone))
  | [], cur, _, _ => by rw [List.filter_nil, List.append_nil]; rfl
  | m :: A, cur, nd, h => by
    rw [List.map_cons, List.nodup_cons] at nd
    rw [List.flatMap_cons, ap_app]
    cases hl : lk m.1 ms with
    | some v =>
      have e : gthA [] ms m = [] := by unfold gthA; rw [hl]; rfl
      rw [e, List.filter_cons_of_neg (by simp [hl])]
      exact mem_phase2 ms A cur nd.2 fun x hx => h x (List.mem_cons_of_mem _ hx)
    | none =>
      have e : gthA [] ms m = [.add [m.1] m.2] := by unfold gthA; rw [hl]; rfl
      have hn := h m List.mem_cons_self hl
      have hf : fiN m.1 cur = none := by
        cases hf : fiN m.1 cur with
        | none => rfl
        | some k =>
          obtain ⟨c, hc⟩ := fiN_get hf
          exact absurd (List.mem_map_of_mem (f := (·.1)) (List.mem_of_getElem? hc)) hn
      have e2 : ap (.fld cur) [.add [m.1] m.2] = some (.fld (cur ++ [m])) := by
        show (some (J.fld (putF m.1 m.2 cur))).bind (fun j' => ap j' []) = _
        rw [putF_none hf]
        rfl
      have ih := mem_phase2 ms A (cur ++ [m]) nd.2 fun x hx hx2 => by
        rw [List.map_append, List.mem_append]
        rintro (hq | hq)
        · exact h x (List.mem_cons_of_mem _ hx) hx2 hq
        · have : x.1 = m.1 := by simpa using hq
          exact nd.1 (this ▸ List.mem_map_of_mem (f := (·.1)) hx)
      rw [e, e2, Option.bind_some, ih, List.filter_cons_of_pos (by simp [hl]), List.append_assoc]
      rfl
theorem good_fld (n : Nat) (ms ms' : List (Nm × J)) (nx : (ms.map (·.1)).Nodup) (ny : (ms'.map (·.1)).Nodup) (cy : ∀ m ∈ ms', Clean m.2) (hg : ∀ m ∈ ms, ∀ v, lk m.1 ms' = some v → Good n m.2 v) :
    ∃ a', ap (.fld ms) (gthS (gth n) [] (.fld ms) (.fld ms')) = some a' ∧ alk a' (.fld ms') = true := by
  obtain ⟨D', h1, h2, h3⟩ := mem_phase1 n ms' ms [] nx hg
  have hD : ∀ x, x ∈ D'.map (·.1) ↔ x ∈ ms.map (·.1) ∧ x ∈ ms'.map (·.1) := fun x => by
    rw [h3, List.mem_filter, lk_names]
  have h4 := mem_phase2 ms ms' D' ny fun m hm hn hq => by
    have := lk_names.mpr ((hD m.1).mp hq).1
    rw [hn] at this
    cases this
  have hA : ∀ x, x ∈ (ms'.filter fun m => (lk m.1 ms).isNone).map (·.1) ↔ x ∉ ms.map (·.1) ∧ x ∈ ms'.map (·.1) := fun x => by
    constructor
    · intro hx
      obtain ⟨m, hm, rfl⟩ := List.mem_map.mp hx
      obtain ⟨m1, m2⟩ := List.mem_filter.mp hm
      refine ⟨fun z => ?_, List.mem_map_of_mem (f := (·.1)) m1⟩
      have := lk_names.mpr z
      rw [Option.isNone_iff_eq_none] at m2
      rw [m2] at this
      cases this
    · rintro ⟨hx, hy⟩
      obtain ⟨m, hm, rfl⟩ := List.mem_map.mp hy
      refine List.mem_map_of_mem (f := (·.1)) (List.mem_filter.mpr ⟨hm, ?_⟩)
      cases hl : lk m.1 ms with
      | none => rfl
      | some v => exact absurd (lk_names.mp (by rw [hl]; rfl)) hx
  have nA : ((ms'.filter fun m => (lk m.1 ms).isNone).map (·.1)).Nodup := List.Nodup.sublist (List.Sublist.map _ List.filter_sublist) ny
  have nD : (D'.map (·.1)).Nodup := by rw [h3]; exact List.Nodup.sublist List.filter_sublist nx
  refine ⟨.fld (D' ++ ms'.filter fun m => (lk m.1 ms).isNone), ?_, alk_fld_of ?_ ny ?_ ?_⟩
  · show ap (.fld ms) (ms.flatMap (gthF (gth n) [] ms') ++ ms'.flatMap (gthA [] ms)) = _
    rw [ap_app]
    rw [List.nil_append, List.nil_append] at h1
    rw [h1, Option.bind_some, h4]
  · rw [List.map_append, List.nodup_append]
    refine ⟨nD, nA, fun x hx y hy e => ?_⟩
    subst e
    exact ((hA x).mp hy).1 ((hD x).mp hx).1
  · intro m hm
    rcases List.mem_append.mp hm with hm | hm
    · exact h2 m hm
    · have hm' := (List.mem_filter.mp hm).1
      unfold alkM
      rw [lk_of_mem ny hm']
      exact alk_refl (cy m hm')
  · intro m hm
    rw [lk_names, List.map_append, List.mem_append]
    have hm' := List.mem_map_of_mem (f := (·.1)) hm
    by_cases c : m.1 ∈ ms.map (·.1)
    · exact .inl ((hD m.1).mpr ⟨c, hm'⟩)
    · exact .inr ((hA m.1).mpr ⟨c, hm'⟩)
/-! the items -/
theorem fm_succ {β : Type} (f : Nat → List β) (k : Nat) : (List.range (k + 1)).flatMap f = (List.range k).flatMap f ++ f k := by
  rw [List.range_succ, List.flatMap_append, List.flatMap_cons, List.flatMap_nil, List.append_nil]
theorem row_phase1 (n : Nat) (xs ys : List J) (hg : ∀ x ∈ xs, ∀ y ∈ ys, Good n x y) : ∀ k : Nat, k ≤ xs.length → k ≤ ys.length →
    ∃ D, D.length = k ∧ ap (.row xs) ((List.range k).flatMap (gthR (gth n) [] xs ys)) = some (.row (D ++ xs.drop k)) ∧ ∀ (i : Nat) (x y : J), D[i]? = some x → ys[i]? = some y → alk x y = true
  | 0, _, _ => ⟨[], rfl, rfl, fun i x y h => by simp at h⟩
  | k + 1, h1, h2 => by
    obtain ⟨D, hD, ha, hq⟩ := row_phase1 n xs ys hg k (by omega) (by omega)
    have e1 : xs[k]? = some (xs[k]'(by omega)) := List.getElem?_eq_getElem _
    have e2 : ys[k]? = some (ys[k]'(by omega)) := List.getElem?_eq_getElem _
    have e3 : xs.drop k = xs[k]'(by omega) :: xs.drop (k + 1) := List.drop_eq_getElem_cons (by omega)
    generalize xs[k]'(by omega) = x at e1 e3
    generalize ys[k]'(by omega) = y at e2
    obtain ⟨c', g1, g2⟩ := hg x (List.mem_of_getElem? e1) y (List.mem_of_getElem? e2)
    refine ⟨D ++ [c'], by rw [List.length_append, hD]; rfl, ?_, ?_⟩
    · rw [fm_succ, ap_app, ha, Option.bind_some, e3]
      have e : gthR (gth n) [] xs ys k = (gth n [] x y).map (preD [figs k]) := by unfold gthR; rw [e1, e2]; exact gth1 n (figs k) x y
      rw [e]
      subst hD
      have := ap_ctx (fun z => .row (D ++ z :: xs.drop (D.length + 1))) (figs D.length) (fun x => child_midR) (fun x y => wt_midR) (gth n [] x y) x (gth_sd n [] x y)
      rw [g1] at this
      rw [this, List.append_assoc]
      rfl
    · intro i x' y' h3 h4
      by_cases hi : i < k
      · rw [List.getElem?_append_left (by omega)] at h3
        exact hq i x' y' h3 h4
      · rw [List.getElem?_append_right (by omega)] at h3
        have hi' : i - D.length = 0 := by
          have := (List.getElem?_eq_some_iff.mp h3).1
          simp at this
          exact this
        have hik : i = k := by omega
        subst hik
        rw [hi'] at h3
        have h5 : c' = x' := by simpa using h3
        rw [e2] at h4
        have h6 : y = y' := Option.some.inj h4
        subst h5
        subst h6
        exact g2
theorem row_phase2 (X : List J) : ∀ k : Nat, k ≤ X.length → ap (.row X) ((List.range k).flatMap (gthX [] X.length)) = some (.row (X.take (X.length - k)))
  | 0, _ => by rw [Nat.sub_zero, List.take_length]; rfl
  | k + 1, h => by
    have ih := row_phase2 X k (by omega)
    rw [fm_succ, ap_app, ih, Option.bind_some]
    have hl : (X.take (X.length - k)).length = X.length - k := by rw [List.length_take]; omega
    have hi : ixO (.row (X.take (X.length - k))) (figs (X.length - 1 - k)) = some (X.length - 1 - k) := ixO_figs (by omega)
    have hc : (child (.row (X.take (X.length - k))) (figs (X.length - 1 - k))).isSome = true := by
      rw [child_row, hi, Option.bind_some, List.getElem?_eq_getElem (by omega)]
      rfl
    obtain ⟨c, hc⟩ := Option.isSome_iff_exists.mp hc
    show ((child (.row (X.take (X.length - k))) (figs (X.length - 1 - k))).map fun _ => del1 (.row (X.take (X.length - k))) (figs (X.length - 1 - k))).bind (fun j' => ap j' []) = _
    rw [hc, Option.map_some, Option.bind_some, del1_row hi]
    show some (J.row ((X.take (X.length - k)).eraseIdx (X.length - 1 - k))) = _
    congr 2
    rw [List.eraseIdx_eq_take_drop_succ, List.take_take, List.drop_eq_nil_of_le (by omega), List.append_nil]
    congr 1
    omega
theorem figs_45 (k : Nat) : figs k ≠ [45] := fun h => by
  have := plc_figs k
  rw [h] at this
  have h2 : plc [45] = -1 := by decide
  rw [h2] at this
  omega
theorem row_phase3 (D ys : List J) : ∀ k : Nat, D.length + k ≤ ys.length → ap (.row D) ((List.range k).flatMap fun k => gthY [] ys (D.length + k)) = some (.row (D ++ (ys.drop D.length).take k))
  | 0, _ => by rw [List.take_zero, List.append_nil]; rfl
  | k + 1, h => by
    have ih := row_phase3 D ys k (by omega)
    rw [fm_succ, ap_app, ih, Option.bind_some]
    have e2 : ys[D.length + k]? = some (ys[D.length + k]'(by omega)) := List.getElem?_eq_getElem _
    have e3 : (ys.drop D.length).take (k + 1) = (ys.drop D.length).take k ++ [ys[D.length + k]'(by omega)] := by
      rw [List.take_succ_eq_append_getElem (by rw [List.length_drop]; omega), List.getElem_drop]
    generalize ys[D.length + k]'(by omega) = y at e2 e3
    have e : gthY [] ys (D.length + k) = [.add [figs (D.length + k)] y] := by unfold gthY; rw [e2]; rfl
    have hl : (D ++ (ys.drop D.length).take k).length = D.length + k := by
      rw [List.length_append, List.length_take, List.length_drop]; omega
    rw [e, e3, ← List.append_assoc]
    generalize D ++ (ys.drop D.length).take k = cur at hl
    show ((insAt (rowAt (figs (D.length + k)) cur) y cur).map J.row).bind (fun j' => ap j' []) = _
    unfold rowAt insAt
    rw [if_neg (figs_45 _), plc_figs, if_pos (by omega), Int.toNat_natCast, List.take_of_length_le (by omega), List.drop_eq_nil_of_le (by omega), List.append_nil]
    rfl
theorem good_row (n : Nat) (xs ys : List J) (cy : ∀ y ∈ ys, Clean y) (hg : ∀ x ∈ xs, ∀ y ∈ ys, Good n x y) :
    ∃ a', ap (.row xs) (gthS (gth n) [] (.row xs) (.row ys)) = some a' ∧ alk a' (.row ys) = true := by
  obtain ⟨s, hs⟩ : ∃ s, min xs.length ys.length = s := ⟨_, rfl⟩
  rw [gthS_row hs]
  obtain ⟨D, hD, h1, h2⟩ := row_phase1 n xs ys hg s (by omega) (by omega)
  have hX : (D ++ xs.drop s).length = xs.length := by rw [List.length_append, List.length_drop]; omega
  have h3 := row_phase2 (D ++ xs.drop s) (xs.length - s) (by omega)
  rw [hX] at h3
  have e4 : xs.length - (xs.length - s) = D.length := by omega
  rw [e4, List.take_left] at h3
  have h5 := row_phase3 D ys (ys.length - s) (by omega)
  rw [hD] at h5
  have e6 : (ys.drop s).take (ys.length - s) = ys.drop s := List.take_of_length_le (by rw [List.length_drop]; exact Nat.le_refl _)
  rw [e6] at h5
  refine ⟨.row (D ++ ys.drop s), by rw [ap_app, h1, Option.bind_some, ap_app, h3, Option.bind_some, h5], alk_row_of (by rw [List.length_append, List.length_drop]; omega) ?_⟩
  intro i x y hx hy
  by_cases hi : i < s
  · rw [List.getElem?_append_left (by omega)] at hx
    exact h2 i x y hx hy
  · rw [List.getElem?_append_right (by omega), List.getElem?_drop] at hx
    have e7 : s + (i - D.length) = i := by omega
    rw [e7, hy] at hx
    have e8 : y = x := Option.some.inj hx
    subst e8
    exact alk_refl (cy y (List.mem_of_getElem? hy))
theorem gth_good : ∀ (n : Nat) (a b : J), depth b < n → Clean a → Clean b → Good n a b
  | 0, _, _, h, _, _ => absurd h (Nat.not_lt_zero _)
  | n + 1, a, b, h, ca, cb => by
    unfold Good gth
    by_cases c : alk a b = true
    · rw [if_pos c]; exact ⟨a, rfl, c⟩
    rw [if_neg c]
    rcases two a b with ⟨xs, ys, rfl, rfl⟩ | ⟨ms, ms', rfl, rfl⟩ | ⟨c1, c2⟩
    · cases ca with
      | row cx =>
        cases cb with
        | row cy =>
          refine good_row n xs ys cy fun x hx y hy => ?_
          have := depth_mem hy
          exact gth_good n x y (by omega) (cx x hx) (cy y hy)
    · cases ca with
      | fld nx cx =>
        cases cb with
        | fld ny cy =>
          refine good_fld n ms ms' nx ny cy fun m hm v hv => ?_
          have m2 := lk_mem hv
          have : depth v < depth (.fld ms') := depth_memf m2
          exact gth_good n m.2 v (by omega) (cx m hm) (cy _ m2)
    · rw [gthS_rep c1 c2]
      exact ⟨b, rfl, alk_refl cb⟩
/-- how large a value can get on the way -/
theorem dn_size {j j' : J} {d : Dd} {p : List Nm} {N : Nat} (hs : Sd p N d) (h : dn j d = some j') : size j' ≤ size j + wg d := by
  cases hs with
  | add h1 h2 => have := (grow_facts (show grow j _ _ = some j' from h)).1; simp only [wg]; omega
  | rem h1 h2 => have := (wo_facts (show wo j _ = some j' from h)).1; simp only [wg]; omega
  | rep h1 => have := (rp_facts (show rp j _ _ = some j' from h)).1; simp only [wg]; omega
end Pl

namespace Pl
open PySem DL Pg
/-! ### ways -/
def encW (w : List Nm × J) : PyData := .tuple [pathD w.1, enc w.2]
@[simp] theorem encW_0 (w : List Nm × J) : gIx (encW w) (.int 0) = some (pathD w.1) := by unfold encW; simp
@[simp] theorem encW_1 (w : List Nm × J) : gIx (encW w) (.int 1) = some (enc w.2) := by unfold encW; simp
def kidR (p : List Nm) (xs : List J) (k : Nat) : List (List Nm × J) := match xs[k]? with
  | some x => [(p ++ [figs k], x)]
  | none => []
def kids : List Nm × J → List (List Nm × J)
  | (p, .row xs) => (List.range xs.length).flatMap (kidR p xs)
  | (p, .fld ms) => ms.flatMap fun m => [(p ++ [m.1], m.2)]
  | _ => []
theorem sum_fm {α β : Type} (f : α → List β) (g : β → Nat) : ∀ l : List α, ((l.flatMap f).map g).sum = (l.map fun x => ((f x).map g).sum).sum
  | [] => rfl
  | x :: l => by rw [List.flatMap_cons, List.map_append, List.sum_append, List.map_cons, List.sum_cons, sum_fm f g l]
theorem kids_size (w : List Nm × J) : ((kids w).map fun w => size w.2).sum + 1 = size w.2 := by
  obtain ⟨p, v⟩ := w
  cases v with
  | row xs =>
    show (((List.range xs.length).flatMap (kidR p xs)).map fun w => size w.2).sum + 1 = size (.row xs)
    rw [sum_fm, size_row, Nat.add_comm]
    congr 2
    have h := range_take size xs xs.length (Nat.le_refl _)
    rw [List.take_length] at h
    rw [← h]
    refine List.map_congr_left fun k _ => ?_
    unfold kidR
    cases xs[k]? with
    | none => rfl
    | some x => simp
  | fld ms =>
    show ((ms.flatMap fun m => [(p ++ [m.1], m.2)]).map fun w => size w.2).sum + 1 = size (.fld ms)
    rw [sum_fm, size_fld, Nat.add_comm]
    rfl
  | non => show 0 + 1 = size .non; rw [size_non]
  | bl b => show 0 + 1 = size (.bl b); rw [size_bl]
  | num a b => show 0 + 1 = size (.num a b); rw [size_num]
  | txt cs => show 0 + 1 = size (.txt cs); rw [size_txt]
theorem kids_len (w : List Nm × J) : (kids w).length < size w.2 := by
  have h := kids_size w
  have h2 := sum_ge (l := (kids w).map fun w => size w.2) fun a ha => by
    obtain ⟨x, _, rfl⟩ := List.mem_map.mp ha
    exact size_pos x.2
  rw [List.length_map] at h2
  omega
theorem gt_snoc : ∀ (p : List Nm) (j : J) (n : Nm), gt j (p ++ [n]) = (gt j p).bind fun c => child c n
  | [], j, n => by
    show (child j n).bind (fun c => some c) = child j n
    cases child j n <;> rfl
  | m :: p, j, n => by
    rw [List.cons_append, gt_cons, gt_cons]
    cases child j m with
    | none => rfl
    | some c => exact gt_snoc p c n
theorem kids_ok {j : J} (cj : Clean j) {w : List Nm × J} (h : gt j w.1 = some w.2) : ∀ w' ∈ kids w, gt j w'.1 = some w'.2 := by
  obtain ⟨p, v⟩ := w
  intro w' hw
  have cv := gt_clean cj h
  have h' : gt j p = some v := h
  cases v with
  | row xs =>
    obtain ⟨k, hk, hw⟩ := List.mem_flatMap.mp (show w' ∈ (List.range xs.length).flatMap (kidR p xs) from hw)
    have hk' := List.mem_range.mp hk
    unfold kidR at hw
    rw [List.getElem?_eq_getElem hk'] at hw
    have e := List.mem_singleton.mp hw
    subst e
    show gt j (p ++ [figs k]) = some xs[k]
    rw [gt_snoc, h', Option.bind_some, child_row, ixO_figs hk', Option.bind_some, List.getElem?_eq_getElem hk']
  | fld ms =>
    obtain ⟨m, hm, hw⟩ := List.mem_flatMap.mp (show w' ∈ ms.flatMap (fun m => [(p ++ [m.1], m.2)]) from hw)
    have e := List.mem_singleton.mp hw
    subst e
    show gt j (p ++ [m.1]) = some m.2
    cases cv with
    | fld nd _ => rw [gt_snoc, h', Option.bind_some, child_fld', lk_of_mem nd hm]
  | non => cases hw
  | bl b => cases hw
  | num a b => cases hw
  | txt cs => cases hw
def ownO (x : Option PyData) (L : List PyData) : Option PyData := x.bind fun d => (asI d).bind fun i => L2.atI L i
@[simp] theorem fOwnIx_ap {fe : FE (List PyData)} {D : Ds} {L : List PyData} : fOwnIx fe D L = ownO (fe D L) L := nr rfl
@[simp] theorem ownO_s {i : Int} {L : List PyData} : ownO (some (.int i)) L = L2.atI L i := nr rfl
@[simp] theorem fOwnLen_ap {D : Ds} {L : List PyData} : fOwnLen D L = some (.int L.length) := nr rfl
theorem way_head (j v : J) (i : Int) (N : PyData) (o6 o7 o8 : Option PyData) (L : List PyData) : sIf (fTru (fUn gIsTup (fVar 4))) (sAsg 5 (fBin gIx (fVar 4) (fC (.int 0)))) sNil [some (enc j), none, some (.int i), some N, some (enc v), some (.str ""), o6, o7, o8] L = some (.nx [some (enc j), none, some (.int i), some N, some (enc v), some (.str (hd v).s), o6, o7, o8] L) := by
  cases v with
  | non => simp [enc_non, hd, Wd.s]
  | bl b => simp [enc_bl, hd, Wd.s]
  | num a b => simp [enc_num, hd, Wd.s]
  | txt cs => simp [enc_txt, hd, Wd.s]
  | row xs => simp [enc_row, hd, Wd.s]
  | fld ms => simp [enc_fld, hd, Wd.s]
theorem way_row (j : J) (i : Int) (p : List Nm) (hp : p.length ≤ 1000) (xs : List J) (hx : xs.length ≤ 1000000) (o6 o7 o8 : Option PyData) (L : List PyData) (hL : L.length + (kids (p, .row xs)).length ≤ 16777216) : ∃ o6', forL (st1 6) lb_ways_1 ((List.range xs.length).map fun (k : Nat) => PyData.int (k : Int)) [some (enc j), none, some (.int i), some (pathD p), some (enc (.row xs)), some (.str "row"), o6, o7, o8] L = some (.nx [some (enc j), none, some (.int i), some (pathD p), some (enc (.row xs)), some (.str "row"), o6', o7, o8] (L ++ (kids (p, .row xs)).map encW)) := by
  have hL' : L.length + ((List.range xs.length).flatMap (kidR p xs)).length ≤ 16777216 := hL
  obtain ⟨D, h, o6', rfl⟩ := forL_app (M := 16777216) (b := lb_ways_1) (i := 6) (g := fun (k : Nat) => PyData.int (k : Int)) (fun k => (kidR p xs k).map encW) (fun D => ∃ o6, D = [some (enc j), none, some (.int i), some (pathD p), some (enc (.row xs)), some (.str "row"), o6, o7, o8]) (List.range xs.length) [some (enc j), none, some (.int i), some (pathD p), some (enc (.row xs)), some (.str "row"), o6, o7, o8] L (by
    rintro k hk D L ⟨o6, rfl⟩ hL
    have hk' := List.mem_range.mp hk
    have e1 : xs[k]? = some (xs[k]'hk') := List.getElem?_eq_getElem _
    generalize xs[k]'hk' = x at e1
    have e : kidR p xs k = [(p ++ [figs k], x)] := by unfold kidR; rw [e1]
    rw [e] at hL ⊢
    have hL' : L.length + 1 ≤ 16777216 := hL
    have ha := gadd_path p (figs k) (by omega)
    unfold nmD at ha
    have e2 : L2.atI (xs.map enc) (k : Int) = some (enc x) := by rw [atI_nat, List.getElem?_map, e1]; rfl
    have hc : fCodes 7 (fVar 6) [some (enc j), none, some (.int i), some (pathD p), some (enc (.row xs)), some (.str "row"), some (.int (k : Int)), o7, o8] L = some (.list ((figs k).map PyData.int)) := by
      rw [← gCodes_eq k (by omega)]
      rfl
    refine ⟨_, ?_, some (.int (k : Int)), rfl⟩
    simp [lb_ways_1, hc, ha, enc_row, e2, appO_s hL', encW]
    rw [enc_row] at hc
    simp [hc, ha, e2, appO_s hL']) ⟨o6, rfl⟩ (by rw [← map_fm, List.length_map]; exact hL')
  refine ⟨o6', ?_⟩
  rw [h, ← map_fm]
  rfl
theorem way_fld (j : J) (i : Int) (p : List Nm) (hp : p.length ≤ 1000) (ms : List (Nm × J)) (o6 o7 o8 : Option PyData) (L : List PyData) (hL : L.length + (kids (p, .fld ms)).length ≤ 16777216) : ∃ o8', forL (st1 8) lb_ways_2 (ms.map encP) [some (enc j), none, some (.int i), some (pathD p), some (enc (.fld ms)), some (.str "fields"), o6, o7, o8] L = some (.nx [some (enc j), none, some (.int i), some (pathD p), some (enc (.fld ms)), some (.str "fields"), o6, o7, o8'] (L ++ (kids (p, .fld ms)).map encW)) := by
  have hL' : L.length + (ms.flatMap fun m => [(p ++ [m.1], m.2)]).length ≤ 16777216 := hL
  obtain ⟨D, h, o8', rfl⟩ := forL_app (M := 16777216) (b := lb_ways_2) (i := 8) (g := encP) (fun m : Nm × J => [(p ++ [m.1], m.2)].map encW) (fun D => ∃ o8, D = [some (enc j), none, some (.int i), some (pathD p), some (enc (.fld ms)), some (.str "fields"), o6, o7, o8]) ms [some (enc j), none, some (.int i), some (pathD p), some (enc (.fld ms)), some (.str "fields"), o6, o7, o8] L (by
    rintro m hm D L ⟨o8, rfl⟩ hL
    have hL' : L.length + 1 ≤ 16777216 := hL
    have ha := gadd_path p m.1 (by omega)
    refine ⟨_, ?_, some (encP m), rfl⟩
    simp [lb_ways_2, ha, appO_s hL', encW]) ⟨o8, rfl⟩ (by rw [← map_fm, List.length_map]; exact hL')
  refine ⟨o8', ?_⟩
  rw [h, ← map_fm]
  rfl
theorem way_step (j : J) (i : Nat) (W : List (List Nm × J)) (w : List Nm × J) (hw : W[i]? = some w) (hp : w.1.length ≤ 1000) (hs : W.length + size w.2 ≤ 1000000) (o3 o4 o5 o6 o7 o8 : Option PyData) :
    ∃ o3' o4' o5' o6' o7' o8', lb_ways_3 [some (enc j), none, some (.int (i : Int)), o3, o4, o5, o6, o7, o8] (W.map encW) = some (.nx [some (enc j), none, some (.int ((i + 1 : Nat) : Int)), o3', o4', o5', o6', o7', o8'] ((W ++ kids w).map encW)) := by
  have e1 : L2.atI (W.map encW) (i : Int) = some (encW w) := by rw [atI_nat, List.getElem?_map, hw]; rfl
  have hk := kids_len w
  obtain ⟨p, v⟩ := w
  have hk' : (kids (p, v)).length < size v := hk
  have hp' : p.length ≤ 1000 := hp
  have hs' : W.length + size v ≤ 1000000 := hs
  unfold lb_ways_3
  rw [sSeq_nx (D' := [some (enc j), none, some (.int (i : Int)), some (pathD p), o4, o5, o6, o7, o8]) (s' := W.map encW) (by simp [e1])]
  rw [sSeq_nx (D' := [some (enc j), none, some (.int (i : Int)), some (pathD p), some (enc v), o5, o6, o7, o8]) (s' := W.map encW) (by simp [e1])]
  rw [sSeq_nx (D' := [some (enc j), none, some (.int (i : Int)), some (pathD p), some (enc v), some (.str ""), o6, o7, o8]) (s' := W.map encW) (by simp)]
  rw [sSeq_nx (way_head j v i (pathD p) o6 o7 o8 (W.map encW))]
  rw [List.map_append]
  have hi : ((i + 1 : Nat) : Int) = (i : Int) + 1 := by omega
  rw [hi]
  cases v with
  | row xs =>
    have hl := len_row xs
    obtain ⟨o6', h⟩ := way_row j i p hp' xs (by omega) o6 o7 o8 (W.map encW) (by rw [List.length_map]; omega)
    rw [sSeq_nx (D' := [some (enc j), none, some (.int (i : Int)), some (pathD p), some (enc (.row xs)), some (.str "row"), o6', o7, o8]) (s' := W.map encW ++ (kids (p, .row xs)).map encW) (by
      rw [← h]
      rw [enc_row]
      simp [hd, Wd.s, forO_R (range1_nat xs.length (by omega))])]
    rw [sSeq_nx (D' := [some (enc j), none, some (.int (i : Int)), some (pathD p), some (enc (.row xs)), some (.str "row"), o6', o7, o8]) (s' := W.map encW ++ (kids (p, .row xs)).map encW) (by simp)]
    exact ⟨some (pathD p), some (enc (.row xs)), some (.str "row"), o6', o7, o8, by simp⟩
  | fld ms =>
    obtain ⟨o8', h⟩ := way_fld j i p hp' ms o6 o7 o8 (W.map encW) (by rw [List.length_map]; omega)
    rw [sSeq_nx (D' := [some (enc j), none, some (.int (i : Int)), some (pathD p), some (enc (.fld ms)), some (.str "fields"), o6, o7, o8]) (s' := W.map encW) (by simp [hd, Wd.s])]
    rw [sSeq_nx (D' := [some (enc j), none, some (.int (i : Int)), some (pathD p), some (enc (.fld ms)), some (.str "fields"), o6, o7, o8']) (s' := W.map encW ++ (kids (p, .fld ms)).map encW) (by
      rw [← h]
      rw [enc_fld]
      simp)]
    exact ⟨some (pathD p), some (enc (.fld ms)), some (.str "fields"), o6, o7, o8', by simp⟩
  | non =>
    rw [sSeq_nx (D' := [some (enc j), none, some (.int (i : Int)), some (pathD p), some (enc .non), some (.str ""), o6, o7, o8]) (s' := W.map encW) (by simp [hd, Wd.s])]
    rw [sSeq_nx (D' := [some (enc j), none, some (.int (i : Int)), some (pathD p), some (enc .non), some (.str ""), o6, o7, o8]) (s' := W.map encW) (by simp)]
    exact ⟨some (pathD p), some (enc .non), some (.str ""), o6, o7, o8, by simp [kids]⟩
  | bl b =>
    rw [sSeq_nx (D' := [some (enc j), none, some (.int (i : Int)), some (pathD p), some (enc (.bl b)), some (.str ""), o6, o7, o8]) (s' := W.map encW) (by simp [hd, Wd.s])]
    rw [sSeq_nx (D' := [some (enc j), none, some (.int (i : Int)), some (pathD p), some (enc (.bl b)), some (.str ""), o6, o7, o8]) (s' := W.map encW) (by simp)]
    exact ⟨some (pathD p), some (enc (.bl b)), some (.str ""), o6, o7, o8, by simp [kids]⟩
  | num a b =>
    rw [sSeq_nx (D' := [some (enc j), none, some (.int (i : Int)), some (pathD p), some (enc (.num a b)), some (.str "number"), o6, o7, o8]) (s' := W.map encW) (by simp [hd, Wd.s])]
    rw [sSeq_nx (D' := [some (enc j), none, some (.int (i : Int)), some (pathD p), some (enc (.num a b)), some (.str "number"), o6, o7, o8]) (s' := W.map encW) (by simp)]
    exact ⟨some (pathD p), some (enc (.num a b)), some (.str "number"), o6, o7, o8, by simp [kids]⟩
  | txt cs =>
    rw [sSeq_nx (D' := [some (enc j), none, some (.int (i : Int)), some (pathD p), some (enc (.txt cs)), some (.str "text"), o6, o7, o8]) (s' := W.map encW) (by simp [hd, Wd.s])]
    rw [sSeq_nx (D' := [some (enc j), none, some (.int (i : Int)), some (pathD p), some (enc (.txt cs)), some (.str "text"), o6, o7, o8]) (s' := W.map encW) (by simp)]
    exact ⟨some (pathD p), some (enc (.txt cs)), some (.str "text"), o6, o7, o8, by simp [kids]⟩
def wCond : FT (List PyData) := fTst (fBin (gCmp pLt) (fVar 2) fOwnLen)
theorem ways_loop (j : J) (cj : Clean j) (hd1 : depth j ≤ 1000) : ∀ (n r i : Nat) (W : List (List Nm × J)) (o3 o4 o5 o6 o7 o8 : Option PyData), i ≤ W.length → ((W.drop i).map fun w => size w.2).sum = r → r < n → i + r ≤ 500000 → (∀ w ∈ W, gt j w.1 = some w.2) → W ≠ [] →
    ∃ W' D', whileN wCond lb_ways_3 n [some (enc j), none, some (.int (i : Int)), o3, o4, o5, o6, o7, o8] (W.map encW) = some (.nx D' (W'.map encW)) ∧ (∀ w ∈ W', gt j w.1 = some w.2) ∧ W' ≠ [] ∧ W'.length ≤ i + r
  | 0, _, _, _, _, _, _, _, _, _, _, _, h, _, _, _ => absurd h (Nat.not_lt_zero _)
  | n + 1, r, i, W, o3, o4, o5, o6, o7, o8, hi, hr, hn, hM, hW, hne => by
    have hWl : W.length ≤ i + r := by
      have := sum_ge (l := (W.drop i).map fun w => size w.2) fun a ha => by
        obtain ⟨x, _, rfl⟩ := List.mem_map.mp ha
        exact size_pos x.2
      rw [List.length_map, List.length_drop] at this
      omega
    by_cases c : i < W.length
    · have hw : W[i]? = some (W[i]'c) := List.getElem?_eq_getElem c
      have hdr : W.drop i = W[i]'c :: W.drop (i + 1) := List.drop_eq_getElem_cons c
      generalize W[i]'c = w at hw hdr
      have hwj := hW w (List.mem_of_getElem? hw)
      have hp := gt_depth hwj
      rw [hdr, List.map_cons, List.sum_cons] at hr
      have hk := kids_size w
      have hkl := kids_len w
      obtain ⟨o3', o4', o5', o6', o7', o8', h⟩ := way_step j i W w hw (by omega) (by omega) o3 o4 o5 o6 o7 o8
      obtain ⟨W', D', h1, h2, h3, h4⟩ := ways_loop j cj hd1 n (r - 1) (i + 1) (W ++ kids w) o3' o4' o5' o6' o7' o8' (by rw [List.length_append]; omega) (by
        rw [List.drop_append_of_le_length (by omega), List.map_append, List.sum_append]; omega) (by omega) (by omega) (by
        intro x hx
        rcases List.mem_append.mp hx with hx | hx
        · exact hW x hx
        · exact kids_ok cj hwj x hx) (by simp [hne])
      refine ⟨W', D', ?_, h2, h3, by omega⟩
      have e : wCond [some (enc j), none, some (.int (i : Int)), o3, o4, o5, o6, o7, o8] (W.map encW) = some true := by
        have : (i : Int) < (W.length : Int) := by omega
        simp [wCond, this]
      rw [whileN, e, Option.bind_some, if_pos rfl, h]
      exact h1
    · have hi' : i = W.length := by omega
      refine ⟨W, [some (enc j), none, some (.int (i : Int)), o3, o4, o5, o6, o7, o8], ?_, hW, hne, by omega⟩
      have e : wCond [some (enc j), none, some (.int (i : Int)), o3, o4, o5, o6, o7, o8] (W.map encW) = some false := by
        have : ¬ (i : Int) < (W.length : Int) := by omega
        simp [wCond, this]
      rw [whileN, e, Option.bind_some, if_neg Bool.false_ne_true]
theorem F_ways_eq (j : J) (cj : Clean j) (hd1 : depth j ≤ 64) (hs : size j ≤ 300) : ∃ W, F_ways [enc j] = some (.list (W.map encW)) ∧ (∀ w ∈ W, gt j w.1 = some w.2) ∧ W ≠ [] ∧ W.length ≤ 300 := by
  obtain ⟨W, D', h1, h2, h3, h4⟩ := ways_loop j cj (by omega) 100000 (size j) 0 [([], j)] none none none none none none (Nat.zero_le _) (by simp) (by omega) (by omega) (fun w hw => by
    have e := List.mem_singleton.mp hw
    subst e
    rfl) (by simp)
  refine ⟨W, ?_, h2, h3, by omega⟩
  refine runF_rt ?_
  show b_ways [some (enc j), none, none, none, none, none, none, none, none] () = _
  unfold b_ways sNewL
  have e : (sSeq (sAsg 2 (fC (.int 0))) (sSeq (whileN (fTst (fBin (gCmp pLt) (fVar 2) fOwnLen)) (lb_ways_3) 100000) sRo) : FS (List PyData)) [some (enc j), none, none, none, none, none, none, none, none] [.tuple [.tuple [], enc j]] = some (.ro (W.map encW)) := by
    rw [sSeq_nx (D' := [some (enc j), none, some (.int ((0 : Nat) : Int)), none, none, none, none, none, none]) (s' := [([], j)].map encW) (by simp [encW, pathD])]
    refine (sSeq_nx h1).trans ?_
    rfl
  have e0 : (fCons (fTup (fCons (fTup fNil) (fCons (fVar 0) fNil))) fNil : FA Unit) [some (enc j), none, none, none, none, none, none, none, none] () = some [.tuple [.tuple [], enc j]] := by simp
  rw [e0, Option.bind_some, if_pos ⟨small (by show 1 ≤ 16777216; decide), by show 1 < 9; decide⟩]
  have e2 : (List.set [some (enc j), none, none, none, none, none, none, none, none] 1 none) = [some (enc j), none, none, none, none, none, none, none, none] := rfl
  rw [e2, e]
end Pl

namespace Pl
open PySem DL Pg
/-! ### named ways -/
def gd : J → List Nm → Bool
  | _, [] => true
  | c, n :: r => decide (hd c = .fields) && (match child c n with
    | some c' => gd c' r
    | none => false)
theorem gd_fgt : ∀ (p : List Nm) (c v : J), gd c p = true → gt c p = some v → fgt c p = some v
  | [], _, _, _, h => h
  | n :: r, c, v, hg, h => by
    unfold gd at hg
    rw [gt_cons] at h
    obtain ⟨c', h1, h2⟩ := bind_some h
    rw [h1] at hg
    have hf : hd c = .fields := by
      by_cases z : hd c = .fields
      · exact z
      · rw [decide_eq_false z] at hg; cases hg
    rw [decide_eq_true hf, Bool.true_and] at hg
    cases c with
    | fld ms =>
      rw [child_fld'] at h1
      show (lk n ms).bind (fun c => fgt c r) = some v
      rw [h1, Option.bind_some]
      exact gd_fgt r c' v hg h2
    | _ => cases hf
theorem child_isT {c c' : J} {n : Nm} (h : child c n = some c') : isT c = true := by
  cases c with
  | row xs => rfl
  | fld ms => rfl
  | _ => cases h
theorem nw_loop (th wy : PyData) (L : List PyData) : ∀ (p : List Nm) (c v : J) (g : Bool) (o5 : Option PyData), size c ≤ 1000000 → gt c p = some v →
    ∃ o4' o5', forL (st1 5) (lb_named_ways_1 F_get F_ways) (p.map nmD) [some th, none, some wy, some (.bool g), some (enc c), o5] L = some (.nx [some th, none, some wy, some (.bool (g && gd c p)), o4', o5'] L)
  | [], c, v, g, o5, _, _ => ⟨some (enc c), o5, by simp [gd]⟩
  | n :: r, c, v, g, o5, hs, h => by
    rw [gt_cons] at h
    obtain ⟨c', h1, h2⟩ := bind_some h
    have hc := child_size h1
    have hT := child_isT h1
    have e0 := enc_0 c hT
    have e1 := gEq_wd (hd c) .fields
    have e1' : gEq (.str (hd c).s) (.str "fields") = some (.bool (decide (hd c = .fields))) := e1
    have e2 := get1 c n hs
    rw [h1] at e2
    have hb : lb_named_ways_1 F_get F_ways (List.set [some th, none, some wy, some (.bool g), some (enc c), o5] 5 (some (nmD n))) L = some (.nx [some th, none, some wy, some (.bool (g && decide (hd c = .fields))), some (enc c'), some (nmD n)] L) := by
      unfold lb_named_ways_1
      rw [sSeq_nx (D' := [some th, none, some wy, some (.bool (g && decide (hd c = .fields))), some (enc c), some (nmD n)]) (s' := L) (by
        cases g <;> simp [e0, e1'])]
      simp [e2]
    obtain ⟨o4', o5', ih⟩ := nw_loop th wy L r c' v (g && decide (hd c = .fields)) (some (nmD n)) (by omega) h2
    refine ⟨o4', o5', ?_⟩
    rw [List.map_cons, forL_1, hb, after_nx, ih, Bool.and_assoc]
    have e : gd c (n :: r) = (decide (hd c = .fields) && gd c' r) := by unfold gd; rw [h1]; cases r <;> rfl
    rw [e]
theorem F_named_ways_eq (j : J) (cj : Clean j) (hd1 : depth j ≤ 64) (hs : size j ≤ 300) : ∃ W : List (List Nm × J), F_named_ways [enc j] = some (.list (W.map encW)) ∧ (∀ w ∈ W, fgt j w.1 = some w.2) ∧ W.length ≤ 300 := by
  obtain ⟨W, hW, hgt, _, hl⟩ := F_ways_eq j cj hd1 hs
  refine ⟨W.flatMap fun w => if gd j w.1 = true then [w] else [], ?_, ?_, ?_⟩
  · obtain ⟨D, h, o2, o3, o4, o5, rfl⟩ := forL_app (M := 16777216) (b := lb_named_ways_2 F_get F_ways) (i := 2) (g := encW) (fun w => (if gd j w.1 = true then [w] else []).map encW) (fun D => ∃ o2 o3 o4 o5, D = [some (enc j), none, o2, o3, o4, o5]) W [some (enc j), none, none, none, none, none] [] (by
      rintro w hw D L ⟨o2, o3, o4, o5, rfl⟩ hL
      obtain ⟨o4', o5', h⟩ := nw_loop (enc j) (encW w) L w.1 j w.2 true o5 (by omega) (hgt w hw)
      rw [Bool.true_and] at h
      refine ⟨[some (enc j), none, some (encW w), some (.bool (gd j w.1)), o4', o5'], ?_, some (encW w), _, o4', o5', rfl⟩
      unfold lb_named_ways_2
      rw [sSeq_nx (D' := [some (enc j), none, some (encW w), some (.bool true), o4, o5]) (s' := L) (by simp)]
      rw [sSeq_nx (D' := [some (enc j), none, some (encW w), some (.bool true), some (enc j), o5]) (s' := L) (by simp)]
      rw [sSeq_nx (D' := [some (enc j), none, some (encW w), some (.bool (gd j w.1)), o4', o5']) (s' := L) (by
        rw [← h]
        simp [pathD])]
      cases hg : gd j w.1 with
      | true =>
        rw [hg] at hL
        have hL' : L.length + 1 ≤ 16777216 := hL
        simp [appO_s hL']
      | false => simp) ⟨none, none, none, none, rfl⟩ (by
      have hb : ∀ l : List (List Nm × J), (l.flatMap fun w => (if gd j w.1 = true then [w] else []).map encW).length ≤ l.length := fun l => by
        induction l with
        | nil => exact Nat.le_refl _
        | cons a r ih =>
          rw [List.flatMap_cons, List.length_append, List.length_cons]
          have : ((if gd j a.1 = true then [a] else []).map encW).length ≤ 1 := by split <;> simp
          omega
      have := hb W
      simp only [List.length_nil]
      omega)
    refine runF_rt ?_
    show b_named_ways F_get F_ways [some (enc j), none, none, none, none, none] () = _
    unfold b_named_ways sNewL
    rw [fNil_ap, Option.bind_some, if_pos ⟨small (Nat.zero_le _), by show 1 < 6; decide⟩]
    have e2 : (List.set [some (enc j), none, none, none, none, none] 1 none) = [some (enc j), none, none, none, none, none] := rfl
    have e : (sSeq (sFor itemsL (st1 2) (fCall 1 F_ways (fCons (fVar 0) fNil)) (lb_named_ways_2 F_get F_ways)) sRo : FS (List PyData)) [some (enc j), none, none, none, none, none] [] = some (.ro ((W.flatMap fun w => if gd j w.1 = true then [w] else []).map encW)) := by
      rw [sSeq_nx (D' := [some (enc j), none, o2, o3, o4, o5]) (s' := [] ++ W.flatMap fun w => (if gd j w.1 = true then [w] else []).map encW) (by
        rw [← h]
        simp [hW])]
      rw [map_fm, List.nil_append]
      rfl
    rw [e2, e]
  · intro w hw
    obtain ⟨w', hw', h⟩ := List.mem_flatMap.mp hw
    split at h
    · rename_i hg
      have e := List.mem_singleton.mp h
      subst e
      exact gd_fgt w.1 j w.2 hg (hgt w hw')
    · cases h
  · have hb : ∀ l : List (List Nm × J), (l.flatMap fun w => if gd j w.1 = true then [w] else []).length ≤ l.length := fun l => by
      induction l with
      | nil => exact Nat.le_refl _
      | cons a r ih =>
        rw [List.flatMap_cons, List.length_append, List.length_cons]
        have : (if gd j a.1 = true then [a] else []).length ≤ 1 := by split <;> simp
        omega
    have := hb W
    omega
end Pl

namespace Pl
open PySem DL Pg
/-! ### the script's numbers -/
@[simp] theorem atI_3 {α : Type} {a b c d : α} {r : List α} : L2.atI (a :: b :: c :: d :: r) 3 = some d := by
  have := atI_nat (a :: b :: c :: d :: r) 3
  simpa using this
@[simp] theorem atI_4 {α : Type} {a b c d e : α} {r : List α} : L2.atI (a :: b :: c :: d :: e :: r) 4 = some e := by
  have := atI_nat (a :: b :: c :: d :: e :: r) 4
  simpa using this
@[simp] theorem atI_5 {α : Type} {a b c d e f : α} {r : List α} : L2.atI (a :: b :: c :: d :: e :: f :: r) 5 = some f := by
  have := atI_nat (a :: b :: c :: d :: e :: f :: r) 5
  simpa using this
@[simp] theorem lstO_4 {a b c d : PyData} : lstO (some [a, b, c, d]) = some (.list [a, b, c, d]) := lstO_s (by show 4 ≤ 16777216; decide)
@[simp] theorem lstO_5 {a b c d e : PyData} : lstO (some [a, b, c, d, e]) = some (.list [a, b, c, d, e]) := lstO_s (by show 5 ≤ 16777216; decide)
@[simp] theorem lstO_6 {a b c d e f : PyData} : lstO (some [a, b, c, d, e, f]) = some (.list [a, b, c, d, e, f]) := lstO_s (by show 6 ≤ 16777216; decide)
def scr (ns : List Int) : PyData := .list (ns.map PyData.int)
theorem F_cell_eq (ns : List Int) (k : Int) : ∃ c : Int, F_cell [scr ns, .int k] = some (.int c) := by
  have hst : ∀ c, b_cell [some (scr ns), some (.int k)] () = some (.rt (.int c) ()) → F_cell [scr ns, .int k] = some (.int c) := fun c h => runF_rt h
  cases ns with
  | nil =>
    refine ⟨0, hst 0 ?_⟩
    simp [b_cell, scr]
  | cons x r =>
    have hl : (((x :: r).length : Nat) : Int) ≠ 0 := by simp; omega
    have hm := gMod_int (i := k) hl
    have h0 : 0 ≤ k.fmod ((x :: r).length : Int) := Int.fmod_nonneg_of_pos _ (by simp)
    have h1 : k.fmod ((x :: r).length : Int) < ((x :: r).length : Int) := Int.fmod_lt_of_pos _ (by simp)
    obtain ⟨a, ha⟩ : ∃ a : Nat, k.fmod ((x :: r).length : Int) = (a : Int) := ⟨(k.fmod ((x :: r).length : Int)).toNat, by omega⟩
    rw [ha] at hm h1
    have h2 : a < (x :: r).length := by omega
    have e1 : L2.atI ((x :: r).map PyData.int) (a : Int) = some (.int ((x :: r)[a]'h2)) := by
      rw [atI_nat, List.getElem?_map, List.getElem?_eq_getElem h2]
      rfl
    refine ⟨(x :: r)[a]'h2, hst _ ?_⟩
    generalize hns : x :: r = ns at *
    have hne : ns.isEmpty = false := by rw [← hns]; rfl
    generalize ns[a]'h2 = y at *
    unfold b_cell
    refine sSeq_rt ?_
    simp [scr, hne, hm, e1]
theorem mulc (c i : Int) (h : -(2 ^ 64) < c ∧ c < 2 ^ 64) : gMul (.int c) (.int i) = some (.int (c * i)) := gMul_int (.inl h)
theorem mulc' (c i : Int) (h : -(2 ^ 64) < c ∧ c < 2 ^ 64) : gMul (.int i) (.int c) = some (.int (i * c)) := gMul_int (.inr h)
theorem F_mix_eq (ns : List Int) (k : Int) : ∃ m : Nat, F_mix [scr ns, .int k] = some (.int (m : Int)) := by
  obtain ⟨c, hc⟩ := F_cell_eq ns k
  have h0 : 0 ≤ ((((c + 104729 * (k + 1)).fmod 4294967291 * 48271).fmod 4294967279).fdiv 64 * 69621 + ((c + 104729 * (k + 1)).fmod 4294967291 * 48271).fmod 4294967279).fmod 4294967231 := Int.fmod_nonneg_of_pos _ (by decide)
  obtain ⟨m, hm⟩ : ∃ m : Nat, ((((c + 104729 * (k + 1)).fmod 4294967291 * 48271).fmod 4294967279).fdiv 64 * 69621 + ((c + 104729 * (k + 1)).fmod 4294967291 * 48271).fmod 4294967279).fmod 4294967231 = (m : Int) := ⟨_, (Int.toNat_of_nonneg h0).symm⟩
  refine ⟨m, runF_rt ?_⟩
  show b_mix F_cell [some (scr ns), some (.int k), none] () = _
  unfold b_mix
  have m1 := mulc 104729 (k + 1) (by decide)
  have g1 := gMod_int (i := c + 104729 * (k + 1)) (j := 4294967291) (by decide)
  rw [sSeq_nx (D' := [some (scr ns), some (.int k), some (.int ((c + 104729 * (k + 1)).fmod 4294967291))]) (s' := ()) (by simp [hc, m1, g1])]
  generalize (c + 104729 * (k + 1)).fmod 4294967291 = u at *
  have m2 := mulc' 48271 u (by decide)
  have g2 := gMod_int (i := u * 48271) (j := 4294967279) (by decide)
  rw [sSeq_nx (D' := [some (scr ns), some (.int k), some (.int ((u * 48271).fmod 4294967279))]) (s' := ()) (by simp [m2, g2])]
  generalize (u * 48271).fmod 4294967279 = w at *
  have g3 := gFdiv_int (i := w) (j := 64) (by decide)
  have m3 := mulc' 69621 (w.fdiv 64) (by decide)
  have g4 := gMod_int (i := w.fdiv 64 * 69621 + w) (j := 4294967231) (by decide)
  rw [hm] at g4
  simp [g3, m3, g4]
/-! ### names and small values -/
def lnm (k : Nat) : Nm := if k = 0 then [] else if k = 1 then [97] else if k = 2 then [97, 98] else if k = 3 then [126, 47] else if k = 4 then [48] else if k = 5 then [233] else [98 + (k : Int)]
theorem lnm_inj : ∀ a, a < 16 → ∀ b, b < 16 → lnm a = lnm b → a = b := by decide +kernel
theorem F_lnamed_eq (k : Nat) : F_lnamed [.int (k : Int)] = some (nmD (lnm k)) := by
  refine runF_rt ?_
  show b_lnamed [some (.int (k : Int))] () = _
  by_cases h : k < 6
  · have : k = 0 ∨ k = 1 ∨ k = 2 ∨ k = 3 ∨ k = 4 ∨ k = 5 := by omega
    unfold b_lnamed
    refine sSeq_rt ?_
    rcases this with rfl | rfl | rfl | rfl | rfl | rfl <;> simp [lnm, nmD]
  · have h' : ¬ (k : Int) < 6 := by omega
    have e : lnm k = [98 + (k : Int)] := by unfold lnm; rw [if_neg (by omega), if_neg (by omega), if_neg (by omega), if_neg (by omega), if_neg (by omega), if_neg (by omega)]
    rw [e]
    simp [b_lnamed, h', nmD]
theorem leaf_num (a b : Int) : ∃ v, (PyData.tuple [.str "number", .int a, .int b]) = enc v ∧ Clean v ∧ size v = 1 := ⟨.num a b, by rw [enc_num], .num a b, size_num a b⟩
theorem leaf_txt (cs : List Int) : ∃ v, (PyData.tuple [.str "text", .tuple (cs.map PyData.int)]) = enc v ∧ Clean v ∧ size v = 1 := ⟨.txt cs, by rw [enc_txt], .txt cs, size_txt cs⟩
theorem modN (m k : Nat) (hk : k ≠ 0) : gMod (.int (m : Int)) (.int (k : Int)) = some (.int ((m % k : Nat) : Int)) := by
  rw [gMod_int (by omega)]
  congr 2
  rw [Int.fmod_eq_emod_of_nonneg _ (by omega)]
  omega
theorem divN (m k : Nat) (hk : k ≠ 0) (h2 : k < 1073741824) : gFdiv (.int (m : Int)) (.int (k : Int)) = some (.int ((m / k : Nat) : Int)) := by
  rw [gFdiv_int (by omega)]
  congr 2
  rw [Int.fdiv_eq_ediv_of_nonneg _ (by omega)]
  omega
theorem F_small_eq (m : Nat) : ∃ v, F_small_value [.int (m : Int)] = some (enc v) ∧ Clean v ∧ size v = 1 := by
  have h1 := modN m 6 (by decide)
  have h2 := divN m 6 (by decide) (by decide)
  have hk : m % 6 < 6 := Nat.mod_lt _ (by decide)
  generalize m % 6 = k at *
  generalize m / 6 = r at *
  have hh : ∀ v, b_small_value [some (.int (m : Int)), none, none] () = some (.rt (enc v) ()) → F_small_value [.int (m : Int)] = some (enc v) := fun v h => runF_rt h
  have h1' : gMod (.int (m : Int)) (.int 6) = some (.int (k : Int)) := h1
  have h2' : gFdiv (.int (m : Int)) (.int 6) = some (.int (r : Int)) := h2
  have main : ∃ d, b_small_value [some (.int (m : Int)), none, none] () = some (.rt d ()) ∧ ∃ v, d = enc v ∧ Clean v ∧ size v = 1 := by
    unfold b_small_value
    rw [sSeq_nx (D' := [some (.int (m : Int)), some (.int (k : Int)), none]) (s' := ()) (by simp [h1'])]
    rw [sSeq_nx (D' := [some (.int (m : Int)), some (.int (k : Int)), some (.int (r : Int))]) (s' := ()) (by simp [h2'])]
    have c : k = 0 ∨ k = 1 ∨ k = 2 ∨ k = 3 ∨ k = 4 ∨ k = 5 := by omega
    rcases c with rfl | rfl | rfl | rfl | rfl | rfl
    · exact ⟨.none, by refine sSeq_rt ?_; simp, .non, enc_non.symm, .non, size_non⟩
    · exact ⟨.bool true, by refine sSeq_rt ?_; simp, .bl true, (enc_bl true).symm, .bl true, size_bl true⟩
    · exact ⟨.bool false, by refine sSeq_rt ?_; simp, .bl false, (enc_bl false).symm, .bl false, size_bl false⟩
    · rw [sSeq_nx (D' := [some (.int (m : Int)), some (.int ((3 : Nat) : Int)), some (.int (r : Int))]) (s' := ()) (by simp)]
      have h3 : gMod (.int (r : Int)) (.int 4) = some (.int ((r % 4 : Nat) : Int)) := modN r 4 (by decide)
      have hk : r % 4 < 4 := Nat.mod_lt _ (by decide)
      generalize r % 4 = q at *
      have c : q = 0 ∨ q = 1 ∨ q = 2 ∨ q = 3 := by omega
      rcases c with rfl | rfl | rfl | rfl
      · exact ⟨_, by refine sSeq_rt ?_; simp [h3], leaf_txt [97]⟩
      · exact ⟨_, by refine sSeq_rt ?_; simp [h3], leaf_txt [34, 10]⟩
      · exact ⟨_, by refine sSeq_rt ?_; simp [h3], leaf_txt []⟩
      · exact ⟨_, by refine sSeq_rt ?_; simp [h3], leaf_txt [233, 128512]⟩
    · rw [sSeq_nx (D' := [some (.int (m : Int)), some (.int ((4 : Nat) : Int)), some (.int (r : Int))]) (s' := ()) (by simp)]
      rw [sSeq_nx (D' := [some (.int (m : Int)), some (.int ((4 : Nat) : Int)), some (.int (r : Int))]) (s' := ()) (by simp)]
      have h3 : gMod (.int (r : Int)) (.int 9) = some (.int ((r % 9 : Nat) : Int)) := modN r 9 (by decide)
      have h4 : gFdiv (.int (r : Int)) (.int 9) = some (.int ((r / 9 : Nat) : Int)) := divN r 9 (by decide) (by decide)
      have h5 : gMod (.int ((r / 9 : Nat) : Int)) (.int 5) = some (.int ((r / 9 % 5 : Nat) : Int)) := modN (r / 9) 5 (by decide)
      generalize r % 9 = q1 at *
      generalize r / 9 % 5 = q2 at *
      generalize r / 9 = q3 at *
      exact ⟨.tuple [.str "number", .int (1 + (q1 : Int)), .int ((q2 : Int) - 2)], by refine sSeq_rt ?_; simp [h3, h4, h5], leaf_num _ _⟩
    · rw [sSeq_nx (D' := [some (.int (m : Int)), some (.int ((5 : Nat) : Int)), some (.int (r : Int))]) (s' := ()) (by simp)]
      rw [sSeq_nx (D' := [some (.int (m : Int)), some (.int ((5 : Nat) : Int)), some (.int (r : Int))]) (s' := ()) (by simp)]
      rw [sSeq_nx (D' := [some (.int (m : Int)), some (.int ((5 : Nat) : Int)), some (.int (r : Int))]) (s' := ()) (by simp)]
      have h3 : gMod (.int (r : Int)) (.int 2) = some (.int ((r % 2 : Nat) : Int)) := modN r 2 (by decide)
      have hk : r % 2 < 2 := Nat.mod_lt _ (by decide)
      generalize r % 2 = q at *
      have hm := mulc (-10) (r : Int) (by decide)
      have c : q = 0 ∨ q = 1 := by omega
      rcases c with rfl | rfl
      · exact ⟨.tuple [.str "number", .int 0, .int 0], by simp [h3, hm], leaf_num _ _⟩
      · exact ⟨.tuple [.str "number", .int (-10 * (r : Int) - 3), .int 0], by simp [h3, hm], leaf_num _ _⟩
  obtain ⟨d, h, v, rfl, h3, h4⟩ := main
  exact ⟨v, hh v h, h3, h4⟩
end Pl

namespace Pl
open PySem DL Pg
/-! ### clean values -/
theorem depth_le (j : J) : depth j ≤ size j := by
  induction j using J.ind with
  | h1 => rw [depth_non]; exact Nat.zero_le _
  | h2 b => rw [depth_bl]; exact Nat.zero_le _
  | h3 a b => rw [depth_num]; exact Nat.zero_le _
  | h4 cs => rw [depth_txt]; exact Nat.zero_le _
  | h5 xs ih =>
    rw [depth_row, size_row]
    have := maxL_lub (l := xs.map depth) (n := (xs.map size).sum) fun a ha => by
      obtain ⟨x, hx, rfl⟩ := List.mem_map.mp ha
      exact Nat.le_trans (ih x hx) (sum_mem (List.mem_map_of_mem (f := size) hx))
    omega
  | h6 ms ih =>
    rw [depth_fld, size_fld]
    have := maxL_lub (l := ms.map fun m => depth m.2) (n := (ms.map fun m => size m.2).sum) fun a ha => by
      obtain ⟨x, hx, rfl⟩ := List.mem_map.mp ha
      exact Nat.le_trans (ih x hx) (sum_mem (List.mem_map_of_mem (f := fun m : Nm × J => size m.2) hx))
    omega
abbrev Fm := List (Bool × List J)
def nmv (vs : List J) : List (Nm × J) := vs.mapIdx fun i v => (lnm i, v)
def encFr (f : Bool × List J) : Str × List PyData := if f.1 = true then ("row", f.2.map enc) else ("fields", (nmv f.2).map encP)
def clo (f : Bool × List J) : J := if f.1 = true then .row f.2 else .fld (nmv f.2)
def wF (f : Bool × List J) : Nat := 1 + (f.2.map size).sum
def wL (L : Fm) : Nat := (L.map wF).sum
theorem nmv_app (vs : List J) (v : J) : nmv (vs ++ [v]) = nmv vs ++ [(lnm vs.length, v)] := by
  unfold nmv
  rw [List.mapIdx_append]
  simp
theorem nmv_len (vs : List J) : (nmv vs).length = vs.length := by unfold nmv; rw [List.length_mapIdx]
theorem clo_size (f : Bool × List J) : size (clo f) = wF f := by
  obtain ⟨b, vs⟩ := f
  cases b with
  | true => show size (.row vs) = _; rw [size_row]; rfl
  | false =>
    show size (.fld (nmv vs)) = _
    rw [size_fld]
    unfold wF
    congr 2
    refine List.ext_getElem (by simp [nmv_len]) fun i h1 h2 => ?_
    simp [nmv]
theorem nmv_names (vs : List J) : (nmv vs).map (·.1) = (List.range vs.length).map lnm := by
  refine List.ext_getElem (by simp [nmv_len]) fun i h1 h2 => ?_
  simp [nmv]
theorem clo_clean {f : Bool × List J} (h : ∀ v ∈ f.2, Clean v) (hl : f.2.length ≤ 15) : Clean (clo f) := by
  obtain ⟨b, vs⟩ := f
  cases b with
  | true => exact .row h
  | false =>
    refine Clean.fld (ms := nmv vs) ?_ ?_
    · rw [nmv_names]
      refine List.pairwise_map.mpr ?_
      refine List.Pairwise.imp_of_mem ?_ (List.nodup_range (n := vs.length))
      intro a b ha hb hne e
      have ha' := List.mem_range.mp ha
      have hb' := List.mem_range.mp hb
      have hl' : vs.length ≤ 15 := hl
      exact hne (lnm_inj a (by omega) b (by omega) e)
    · intro m hm
      unfold nmv at hm
      obtain ⟨i, hi, rfl⟩ := List.mem_mapIdx.mp hm
      exact h _ (List.getElem_mem _)
def put : Fm → J → Fm
  | [], _ => []
  | f :: r, v => (f.1, f.2 ++ [v]) :: r
@[simp] theorem fFrT_ap {D : Ds} {L : Fs} : fFrT D L = some (!L.isEmpty) := nr rfl
@[simp] theorem fTopKind_ap {D : Ds} {k : Str} {xs : List PyData} {r : Fs} : fTopKind D ((k, xs) :: r) = some (.str k) := nr rfl
@[simp] theorem fTopLen_ap {D : Ds} {k : Str} {xs : List PyData} {r : Fs} : fTopLen D ((k, xs) :: r) = some (.int (xs.length : Int)) := nr rfl
theorem sTopApp_s {fe : FE Fs} {D : Ds} {k : Str} {xs : List PyData} {r : Fs} {d : PyData} (hx : xs.length + 1 ≤ 16777216) (he : fe D ((k, xs) :: r) = some d) : sTopApp fe D ((k, xs) :: r) = some (.nx D ((k, xs ++ [d]) :: r)) := by
  unfold sTopApp
  rw [he]
  show (if xs.length < sizeLine then some (Res.nx D ((k, xs ++ [d]) :: r)) else none) = _
  rw [if_pos (small1 hx)]
theorem runP_nx {N : Nat} {f : FS Fs} {L L' : Fs} {ds : List PyData} {D' : Ds} (h : f (none :: startD N ds) L = some (.nx D' L')) : runP N f L ds = some (.none, L') := by
  unfold runP
  rw [h]
theorem runP_rt {N : Nat} {f : FS Fs} {L L' : Fs} {ds : List PyData} {d : PyData} (h : f (none :: startD N ds) L = some (.rt d L')) : runP N f L ds = some (d, L') := by
  unfold runP
  rw [h]
theorem put_eq (L : Fm) (v : J) (hl : ∀ f ∈ L, f.2.length ≤ 1000) : FF_put_in (L.map encFr) [enc v] = some (.none, (put L v).map encFr) := by
  refine runP_nx (D' := [none, some (enc v)]) ?_
  show b_put_in F_lnamed [none, some (enc v)] (L.map encFr) = _
  cases L with
  | nil => simp [b_put_in, put]
  | cons f r =>
    obtain ⟨b, vs⟩ := f
    have hv : vs.length ≤ 1000 := hl (b, vs) List.mem_cons_self
    cases b with
    | true =>
      have e : List.map encFr ((true, vs) :: r) = (("row" : Str), vs.map enc) :: r.map encFr := rfl
      have e2 : List.map encFr (put ((true, vs) :: r) v) = (("row" : Str), vs.map enc ++ [enc v]) :: r.map encFr := by
        show (("row" : Str), (vs ++ [v]).map enc) :: r.map encFr = _
        rw [List.map_append]
        rfl
      rw [e, e2]
      have h := sTopApp_s (fe := fVar 1) (D := [none, some (enc v)]) (k := "row") (xs := vs.map enc) (r := r.map encFr) (d := enc v) (by rw [List.length_map]; omega) rfl
      simp [b_put_in, h]
    | false =>
      have e : List.map encFr ((false, vs) :: r) = (("fields" : Str), (nmv vs).map encP) :: r.map encFr := rfl
      have e2 : List.map encFr (put ((false, vs) :: r) v) = (("fields" : Str), (nmv vs).map encP ++ [encP (lnm vs.length, v)]) :: r.map encFr := by
        show (("fields" : Str), (nmv (vs ++ [v])).map encP) :: r.map encFr = _
        rw [nmv_app, List.map_append]
        rfl
      rw [e, e2]
      have hn := F_lnamed_eq vs.length
      have h := sTopApp_s (fe := fTup (fCons (fCall 1 F_lnamed (fCons fTopLen fNil)) (fCons (fVar 1) fNil))) (D := [none, some (enc v)]) (k := "fields") (xs := (nmv vs).map encP) (r := r.map encFr) (d := encP (lnm vs.length, v)) (by rw [List.length_map, nmv_len]; omega) (by simp [nmv_len, hn, encP])
      simp [b_put_in, h]
theorem clo_enc (f : Bool × List J) : enc (clo f) = .tuple [.str (encFr f).1, .tuple (encFr f).2] := by
  obtain ⟨b, vs⟩ := f
  cases b with
  | true => exact enc_row vs
  | false => exact enc_fld (nmv vs)
theorem shut_eq (f : Bool × List J) (r : Fm) (hl : ∀ f ∈ r, f.2.length ≤ 1000) : FF_shut ((f :: r).map encFr) [] = some (enc (clo f), (put r (clo f)).map encFr) := by
  refine runP_rt ?_
  show b_shut FF_put_in [none, none, none] (((encFr f).1, (encFr f).2) :: r.map encFr) = _
  have hp := put_eq r (clo f) hl
  have hc := clo_enc f
  unfold b_shut
  rw [sSeq_nx (D' := [none, some (.list [.str (encFr f).1, .list (encFr f).2]), none]) (s' := r.map encFr) rfl]
  rw [sSeq_nx (D' := [none, some (.list [.str (encFr f).1, .list (encFr f).2]), some (enc (clo f))]) (s' := r.map encFr) (by simp [hc])]
  have e : sCallF 1 FF_put_in (fCons (fVar 2) fNil) [none, some (.list [.str (encFr f).1, .list (encFr f).2]), some (enc (clo f))] (r.map encFr) = some (.nx [none, some (.list [.str (encFr f).1, .list (encFr f).2]), some (enc (clo f))] ((put r (clo f)).map encFr)) := by
    show (FF_put_in (r.map encFr) [enc (clo f)]).bind (fun p => some (Res.nx _ p.2)) = _
    rw [hp]
    rfl
  rw [sSeq_nx e]
  simp
structure Inv (t : Nat) (L : Fm) (v : J) : Prop where
  cl : ∀ f ∈ L, ∀ u ∈ f.2, Clean u
  cv : Clean v
  sv : size v ≤ t + 1
  wl : wL L ≤ t
theorem Inv.len {t : Nat} {L : Fm} {v : J} (h : Inv t L v) : ∀ f ∈ L, f.2.length ≤ t := fun f hf => by
  have h1 : wF f ≤ wL L := sum_mem (List.mem_map_of_mem (f := wF) hf)
  have h2 := sum_ge (l := f.2.map size) fun a ha => by
    obtain ⟨x, _, rfl⟩ := List.mem_map.mp ha
    exact size_pos x
  rw [List.length_map] at h2
  have h3 := h.wl
  unfold wF at h1
  omega
theorem put_w (L : Fm) (v : J) : wL (put L v) ≤ wL L + size v := by
  cases L with
  | nil => exact Nat.zero_le _
  | cons f r =>
    show ((1 + ((f.2 ++ [v]).map size).sum) + (r.map wF).sum) ≤ ((1 + (f.2.map size).sum) + (r.map wF).sum) + size v
    rw [List.map_append, List.sum_append]
    simp
    omega
theorem put_cl {L : Fm} {v : J} (h : ∀ f ∈ L, ∀ u ∈ f.2, Clean u) (hv : Clean v) : ∀ f ∈ put L v, ∀ u ∈ f.2, Clean u := by
  cases L with
  | nil => intro f hf; cases hf
  | cons f r =>
    intro g hg u hu
    rcases List.mem_cons.mp (show g ∈ (f.1, f.2 ++ [v]) :: r from hg) with rfl | hg
    · rcases List.mem_append.mp hu with hu | hu
      · exact h f List.mem_cons_self u hu
      · have := List.mem_singleton.mp hu
        rw [this]; exact hv
    · exact h g (List.mem_cons_of_mem _ hg) u hu
theorem Inv.shut {t : Nat} {f : Bool × List J} {r : Fm} {v : J} (ht : t ≤ 15) (h : Inv t (f :: r) v) : Inv t (put r (clo f)) (clo f) := by
  have h1 : wL (f :: r) = wF f + wL r := rfl
  have h2 := h.wl
  have h3 := clo_size f
  have h4 := put_w r (clo f)
  have h5 := h.len f List.mem_cons_self
  have cc := clo_clean (fun u hu => h.cl f List.mem_cons_self u hu) (by omega)
  exact ⟨put_cl (fun g hg => h.cl g (List.mem_cons_of_mem _ hg)) cc, cc, by omega, by omega⟩
theorem Inv.up {t : Nat} {L : Fm} {v : J} (h : Inv t L v) : Inv (t + 1) L v := ⟨h.cl, h.cv, by have := h.sv; omega, by have := h.wl; omega⟩
theorem clean_step (ns : List Int) (base : Int) (N : PyData) (t : Nat) (ht : t < 10) (L : Fm) (v : J) (h : Inv t L v) (o6 : Option PyData) :
    ∃ L' v' o6', lb_clean_1 F_mix F_small_value FF_shut FF_put_in [some (scr ns), some (.int base), some N, none, some (enc v), some (.int (t : Int)), o6] (L.map encFr) = some (.nx [some (scr ns), some (.int base), some N, none, some (enc v'), some (.int (t : Int)), o6'] (L'.map encFr)) ∧ Inv (t + 1) L' v' := by
  obtain ⟨m, hm⟩ := F_mix_eq ns (base + (t : Int))
  have h5 : gMod (.int (m : Int)) (.int 5) = some (.int ((m % 5 : Nat) : Int)) := modN m 5 (by decide)
  have h9 : gMod (.int (m : Int)) (.int 9) = some (.int ((m % 9 : Nat) : Int)) := modN m 9 (by decide)
  have d5 : gFdiv (.int (m : Int)) (.int 5) = some (.int ((m / 5 : Nat) : Int)) := divN m 5 (by decide) (by decide)
  have d7 : gFdiv (.int (m : Int)) (.int 7) = some (.int ((m / 7 : Nat) : Int)) := divN m 7 (by decide) (by decide)
  have m2 : gMod (.int ((m / 5 : Nat) : Int)) (.int 2) = some (.int ((m / 5 % 2 : Nat) : Int)) := modN (m / 5) 2 (by decide)
  have b2 : m / 5 % 2 < 2 := Nat.mod_lt _ (by decide)
  obtain ⟨sv, hsv, csv, ssv⟩ := F_small_eq (m / 7)
  generalize m / 5 % 2 = kx at *
  generalize m / 5 = q5 at *
  generalize m / 7 = q7 at *
  generalize m % 5 = r5 at *
  generalize m % 9 = r9 at *
  have hlen := h.len
  unfold lb_clean_1
  have e1 : sAsg 6 (fCall 2 F_mix (fCons (fVar 0) (fCons (fBin gAdd (fVar 1) (fVar 5)) fNil))) [some (scr ns), some (.int base), some N, none, some (enc v), some (.int (t : Int)), o6] (L.map encFr) = some (.nx [some (scr ns), some (.int base), some N, none, some (enc v), some (.int (t : Int)), some (.int (m : Int))] (L.map encFr)) := by simp [hm]
  rw [sSeq_nx e1]
  have hA : (fAndT fFrT (fTst (fBin gEq (fBin gMod (fVar 6) (fC (.int 5))) (fC (.int 1)))) : FT Fs) [some (scr ns), some (.int base), some N, none, some (enc v), some (.int (t : Int)), some (.int (m : Int))] (L.map encFr) = some (decide (L ≠ [] ∧ r5 = 1)) := by
    cases L with
    | nil => simp
    | cons f r =>
      by_cases c : r5 = 1
      · subst c; simp [h5]
      · have : ¬ (r5 : Int) = 1 := by omega
        simp [h5, c, this]
  rw [sIf_ap, hA]
  by_cases c1 : L ≠ [] ∧ r5 = 1
  · rw [decide_eq_true c1, ifS_t]
    cases L with
    | nil => exact absurd rfl c1.1
    | cons f r =>
      have hs := shut_eq f r fun g hg => by have := hlen g (List.mem_cons_of_mem _ hg); omega
      refine ⟨put r (clo f), clo f, some (.int (m : Int)), ?_, (h.shut (by omega)).up⟩
      show (FF_shut ((f :: r).map encFr) []).bind (fun p => some (Res.nx (List.set _ 4 (some p.1)) p.2)) = _
      rw [hs]
      rfl
  · rw [decide_eq_false c1, ifS_f]
    have hB : (fOrT fFrT (fTst (fBin gEq (fVar 5) (fC (.int 0)))) : FT Fs) [some (scr ns), some (.int base), some N, none, some (enc v), some (.int (t : Int)), some (.int (m : Int))] (L.map encFr) = some (decide (L ≠ [] ∨ t = 0)) := by
      cases L with
      | nil =>
        by_cases c : t = 0
        · subst c; simp
        · have : ¬ (t : Int) = 0 := by omega
          simp [c]
      | cons f r => simp
    rw [sIf_ap, hB]
    by_cases c2 : L ≠ [] ∨ t = 0
    · rw [decide_eq_true c2, ifS_t]
      have hC : (fOrT (fTst (fBin (gCmp pGt) (fBin gMod (fVar 6) (fC (.int 5))) (fC (.int 2)))) (fAndT (fTst (fBin gEq (fVar 5) (fC (.int 0)))) (fTst (fBin (gCmp pGt) (fBin gMod (fVar 6) (fC (.int 9))) (fC (.int 0))))) : FT Fs) [some (scr ns), some (.int base), some N, none, some (enc v), some (.int (t : Int)), some (.int (m : Int))] (L.map encFr) = some (decide (2 < r5 ∨ (t = 0 ∧ 0 < r9))) := by
        by_cases c : 2 < r5
        · have : (2 : Int) < (r5 : Int) := by omega
          simp [h5, c, this]
        · have : ¬ (2 : Int) < (r5 : Int) := by omega
          by_cases c' : t = 0
          · subst c'
            by_cases c'' : 0 < r9
            · have : (0 : Int) < (r9 : Int) := by omega
              simp [h5, h9, c, c'', this, *]
            · have : ¬ (0 : Int) < (r9 : Int) := by omega
              simp [h5, h9, c, c'', this, *]
          · have : ¬ (t : Int) = 0 := by omega
            simp [h5, c, c', this, *]
      rw [sIf_ap, hC]
      by_cases c3 : 2 < r5 ∨ (t = 0 ∧ 0 < r9)
      · rw [decide_eq_true c3, ifS_t]
        have hk : kx = 0 ∨ kx = 1 := by omega
        have hw : (L.map encFr).length < sizeLine := by
          rw [List.length_map]
          have h1 := sum_ge (l := L.map wF) fun a ha => by
            obtain ⟨x, _, rfl⟩ := List.mem_map.mp ha
            unfold wF; omega
          rw [List.length_map] at h1
          have h2 := h.wl
          unfold wL at h2
          exact small1 (by omega)
        have push : ∀ (b : Bool) (k : Str), encFr (b, []) = (k, []) → (fBin gIx (fLst (fCons (fC (.str "row")) (fCons (fC (.str "fields")) fNil))) (fBin gMod (fBin gFdiv (fVar 6) (fC (.int 5))) (fC (.int 2))) : FE Fs) [some (scr ns), some (.int base), some N, none, some (enc v), some (.int (t : Int)), some (.int (m : Int))] (L.map encFr) = some (.str k) → ∃ L' v' o6', sPush (fBin gIx (fLst (fCons (fC (.str "row")) (fCons (fC (.str "fields")) fNil))) (fBin gMod (fBin gFdiv (fVar 6) (fC (.int 5))) (fC (.int 2)))) [some (scr ns), some (.int base), some N, none, some (enc v), some (.int (t : Int)), some (.int (m : Int))] (L.map encFr) = some (.nx [some (scr ns), some (.int base), some N, none, some (enc v'), some (.int (t : Int)), o6'] (L'.map encFr)) ∧ Inv (t + 1) L' v' := fun b k hb he => by
          refine ⟨(b, []) :: L, v, some (.int (m : Int)), ?_, ⟨?_, h.cv, by have := h.sv; omega, ?_⟩⟩
          · unfold sPush
            rw [he, List.map_cons, hb]
            show (if (L.map encFr).length < sizeLine then some (Res.nx _ ((k, []) :: L.map encFr)) else none) = _
            rw [if_pos hw]
          · intro f hf u hu
            rcases List.mem_cons.mp hf with rfl | hf
            · cases hu
            · exact h.cl f hf u hu
          · show (1 + 0) + wL L ≤ t + 1
            have := h.wl
            omega
        rcases hk with rfl | rfl
        · exact push true "row" rfl (by simp [d5, m2])
        · exact push false "fields" rfl (by simp [d5, m2])
      · rw [decide_eq_false c3, ifS_f]
        have hp := put_eq L sv fun g hg => by have := hlen g hg; omega
        refine ⟨put L sv, sv, some (.int (m : Int)), ?_, ⟨put_cl h.cl csv, csv, by omega, ?_⟩⟩
        · rw [sSeq_nx (D' := [some (scr ns), some (.int base), some N, none, some (enc sv), some (.int (t : Int)), some (.int (m : Int))]) (s' := L.map encFr) (by simp [d7, hsv])]
          show (FF_put_in (L.map encFr) [enc sv]).bind (fun p => some (Res.nx _ p.2)) = _
          rw [hp]
          rfl
        · have h1 := put_w L sv
          have h2 := h.wl
          omega
    · rw [decide_eq_false c2, ifS_f]
      exact ⟨L, v, some (.int (m : Int)), by simp, h.up⟩
theorem clean_loop (ns : List Int) (base : Int) (N : PyData) : ∀ (c t : Nat) (L : Fm) (v : J) (o5 o6 : Option PyData), t + c ≤ 10 → Inv t L v →
    ∃ L' v' o5' o6', forL (st1 5) (lb_clean_1 F_mix F_small_value FF_shut FF_put_in) ((List.range' t c).map fun (k : Nat) => PyData.int (k : Int)) [some (scr ns), some (.int base), some N, none, some (enc v), o5, o6] (L.map encFr) = some (.nx [some (scr ns), some (.int base), some N, none, some (enc v'), o5', o6'] (L'.map encFr)) ∧ Inv (t + c) L' v'
  | 0, t, L, v, o5, o6, _, h => ⟨L, v, o5, o6, rfl, h⟩
  | c + 1, t, L, v, o5, o6, ht, h => by
    obtain ⟨L1, v1, o6', h1, i1⟩ := clean_step ns base N t (by omega) L v h o6
    obtain ⟨L2, v2, o5'', o6'', h2, i2⟩ := clean_loop ns base N c (t + 1) L1 v1 (some (.int (t : Int))) o6' (by omega) i1
    refine ⟨L2, v2, o5'', o6'', ?_, by have e : t + (c + 1) = t + 1 + c := by omega
                                       rw [e]; exact i2⟩
    rw [List.range'_succ, List.map_cons, forL_1]
    have e : (List.set [some (scr ns), some (.int base), some N, none, some (enc v), o5, o6] 5 (some (.int (t : Int)))) = [some (scr ns), some (.int base), some N, none, some (enc v), some (.int (t : Int)), o6] := rfl
    rw [e, h1, after_nx]
    exact h2
theorem shut_loop (a b c : PyData) (o5 o6 : Option PyData) (t : Nat) (ht : t ≤ 15) : ∀ (n : Nat) (L : Fm) (v : J), L.length < n → Inv t L v →
    ∃ v', whileN fFrT (sSetF 4 0 FF_shut fNil) n [some a, some b, some c, none, some (enc v), o5, o6] (L.map encFr) = some (.nx [some a, some b, some c, none, some (enc v'), o5, o6] []) ∧ Clean v' ∧ size v' ≤ t + 1
  | 0, _, _, h, _ => absurd h (Nat.not_lt_zero _)
  | n + 1, [], v, _, h => ⟨v, rfl, h.cv, h.sv⟩
  | n + 1, f :: r, v, hn, h => by
    have hs := shut_eq f r fun g hg => by have := h.len g (List.mem_cons_of_mem _ hg); omega
    have hl : (put r (clo f)).length = r.length := by cases r <;> rfl
    rw [List.length_cons] at hn
    obtain ⟨v', h1, h2, h3⟩ := shut_loop a b c o5 o6 t ht n (put r (clo f)) (clo f) (by omega) (h.shut ht)
    refine ⟨v', ?_, h2, h3⟩
    rw [whileN]
    have e : (fFrT : FT Fs) [some a, some b, some c, none, some (enc v), o5, o6] ((f :: r).map encFr) = some true := rfl
    rw [e, Option.bind_some, if_pos rfl]
    have e2 : sSetF 4 0 FF_shut fNil [some a, some b, some c, none, some (enc v), o5, o6] ((f :: r).map encFr) = some (.nx [some a, some b, some c, none, some (enc (clo f)), o5, o6] ((put r (clo f)).map encFr)) := by
      show (FF_shut ((f :: r).map encFr) []).bind (fun p => some (Res.nx (List.set _ 4 (some p.1)) p.2)) = _
      rw [hs]
      rfl
    rw [e2]
    exact h1
theorem F_clean_eq (ns : List Int) (base : Int) (N : Nat) (hN : N ≤ 9) : ∃ v, F_clean [scr ns, .int base, .int (N : Int)] = some (enc v) ∧ Clean v ∧ size v ≤ 10 := by
  obtain ⟨L, v, o5, o6, h1, i1⟩ := clean_loop ns base (.int (N : Int)) N 0 [] .non none none (by omega) ⟨fun f hf => (by cases hf), .non, by rw [size_non]; exact Nat.le_refl _, Nat.zero_le _⟩
  rw [Nat.zero_add] at i1
  have hw : L.length < 100000 := by
    have h1 := sum_ge (l := L.map wF) fun a ha => by
      obtain ⟨x, _, rfl⟩ := List.mem_map.mp ha
      unfold wF; omega
    rw [List.length_map] at h1
    have h2 := i1.wl
    unfold wL at h2
    omega
  obtain ⟨v', h2, h3, h4⟩ := shut_loop (scr ns) (.int base) (.int (N : Int)) o5 o6 N (by omega) 100000 L v hw i1
  refine ⟨v', ?_, h3, by omega⟩
  refine runF_rt ?_
  show b_clean F_mix F_small_value FF_shut FF_put_in [some (scr ns), some (.int base), some (.int (N : Int)), none, none, none, none] () = _
  unfold b_clean sNewF
  rw [if_pos (by show 3 < 7; decide)]
  have e : (sSeq (sAsg 4 (fC .none)) (sSeq (sFor range1 (st1 5) (fVar 2) (lb_clean_1 F_mix F_small_value FF_shut FF_put_in)) (sSeq (whileN fFrT (sSetF 4 0 FF_shut fNil) 100000) (sRet (fVar 4))))) (List.set [some (scr ns), some (.int base), some (.int (N : Int)), none, none, none, none] 3 none) [] = some (.rt (enc v') []) := by
    rw [sSeq_nx (D' := [some (scr ns), some (.int base), some (.int (N : Int)), none, some (enc .non), none, none]) (s' := ([] : Fm).map encFr) (by rw [enc_non]; rfl)]
    have hr := range1_nat N (by omega)
    rw [List.range_eq_range'] at hr
    have hf : sFor range1 (st1 5) (fVar 2) (lb_clean_1 F_mix F_small_value FF_shut FF_put_in) [some (scr ns), some (.int base), some (.int (N : Int)), none, some (enc .non), none, none] (([] : Fm).map encFr) = _ := (forO_R hr).trans h1
    rw [sSeq_nx hf]
    rw [sSeq_nx h2]
    rfl
  rw [e]
end Pl

namespace Pl
open PySem DL Pg
/-! ### a deed drawn -/
def okV : Dd → Prop
  | .add _ v => Clean v ∧ depth v ≤ 64
  | .rep _ v => Clean v ∧ depth v ≤ 64
  | _ => True
theorem dn_ok {j j' : J} {d : Dd} (cj : Clean j) (hj : depth j ≤ 64) (h1 : okD d) (h2 : okV d) (h : dn j d = some j') : Clean j' ∧ depth j' < 140 := by
  cases d with
  | add p v =>
    have f := grow_facts (show grow j p v = some j' from h)
    have h1' : p.length < 70 := h1
    exact ⟨f.2.2 cj h2.1, by have := f.2.1; have := h2.2; omega⟩
  | rem p =>
    have f := wo_facts (show wo j p = some j' from h)
    exact ⟨f.2.2 cj, by have := f.2.1; omega⟩
  | rep p v =>
    have f := rp_facts (show rp j p v = some j' from h)
    have h1' : p.length < 70 := h1
    exact ⟨f.2.2 cj h2.1, by have := f.2.1; have := h2.2; omega⟩
  | tst p v =>
    obtain ⟨c, _, hc⟩ := bind_some (show (gt j p).bind (fun c => if alk c v = true then some j else none) = some j' from h)
    split at hc
    · have e := Option.some.inj hc
      subst e
      exact ⟨cj, by omega⟩
    · cases hc
  | cp p g =>
    obtain ⟨c, hg, hc⟩ := bind_some (show (gt j p).bind (fun c => grow j g c) = some j' from h)
    have f := grow_facts hc
    have dc := gt_depth hg
    have h1' : g.length < 70 := h1.2
    exact ⟨f.2.2 cj (gt_clean cj hg), by have := f.2.1; omega⟩
  | mv p g =>
    obtain ⟨c, hg, hc⟩ := bind_some (show (gt j p).bind (fun c => if p.length < g.length ∧ g.take p.length = p then none else (wo j p).bind fun l => grow l g c) = some j' from h)
    split at hc
    · cases hc
    · obtain ⟨l, hl, hc⟩ := bind_some hc
      have f := grow_facts hc
      have f2 := wo_facts hl
      have dc := gt_depth hg
      have h1' : g.length < 70 := h1.2
      exact ⟨f.2.2 (f2.2.2 cj) (gt_clean cj hg), by have := f.2.1; have := f2.2.1; omega⟩
theorem gadd_paths (p q : List Nm) (h : p.length + q.length ≤ 16777216) : gAdd (pathD p) (pathD q) = some (pathD (p ++ q)) := by
  unfold pathD
  rw [gAdd_t (by rw [List.length_map, List.length_map]; exact h), List.map_append]
/-- which way the script picks -/
theorem pick_way (ns : List Int) (base : Int) (e2 : FE Unit) (j : J) (W : List (List Nm × J)) (hW : ∀ w ∈ W, w.1.length ≤ 64) (hne : W ≠ []) (D : Ds) (h0 : fVar 0 D () = some (scr ns)) (h3 : fVar 3 D () = some (.list (W.map encW))) (he : e2 D () = some (.int base)) :
    ∃ p : List Nm, p.length ≤ 64 ∧ (fBin gIx (fBin gIx (fVar 3) (fBin gMod (fCall 2 F_mix (fCons (fVar 0) (fCons e2 fNil))) (fUn gLen (fVar 3)))) (fC (.int 0)) : FE Unit) D () = some (pathD p) := by
  obtain ⟨m, hm⟩ := F_mix_eq ns base
  have hl : 0 < W.length := List.length_pos_iff.mpr hne
  have h1 := modN m W.length (by omega)
  have h2 : m % W.length < W.length := Nat.mod_lt _ hl
  have e1 : L2.atI (W.map encW) ((m % W.length : Nat) : Int) = some (encW (W[m % W.length]'h2)) := by
    rw [atI_nat, List.getElem?_map, List.getElem?_eq_getElem h2]
    rfl
  refine ⟨(W[m % W.length]'h2).1, hW _ (List.getElem_mem h2), ?_⟩
  generalize W[m % W.length]'h2 = w at *
  rw [fBin_ap, fBin_ap, fBin_ap, fCall_ap, fCons_ap, fCons_ap, fNil_ap, fUn_ap, h0, h3, he]
  rw [consO_s, consO_s, callO_2, hm, Option.bind_some, gLen_list, List.length_map, bin2_s, h1, bin2_s, gIx_list, e1, fC_ap, bin2_s, encW_0]
def exs (k : Nat) (c : Int) : List (List Nm) := [[], [[48]], [[45]], [lnm k], [[c]], [[48, 48]]]
theorem exs_len (k : Nat) (c : Int) : ∀ p ∈ exs k c, p.length ≤ 1 := by
  intro p hp
  simp [exs] at hp
  rcases hp with rfl | rfl | rfl | rfl | rfl | rfl <;> simp
/-- a part more, or none -/
theorem more (D : Ds) (s i : Nat) (m u q : Nat) (hi : i < D.length) (p : List Nm) (hp : p.length ≤ 65) (k : Nat) (c : Int) (u1 u2 : Int) (hu1 : u1 = (u : Int)) (hu2 : u2 = (q : Int)) (hu : u ≠ 0) (hq : q ≠ 0) (hq2 : q < 1073741824) (h6 : fVar 6 D () = some (.int (m : Int))) (h7 : fVar 7 D () = some (.list ((exs k c).map pathD))) (h4 : fVar i D () = some (pathD p)) :
    ∃ p', p'.length ≤ p.length + 1 ∧ (sIf (fTst (fBin gEq (fBin gMod (fVar 6) (fC (.int u1))) (fC (.int 0)))) (sAsg i (fBin gAdd (fVar i) (fBin gIx (fVar 7) (fBin gMod (fBin gFdiv (fVar 6) (fC (.int u2))) (fC (.int 6)))))) sNil : FS Unit) D () = some (.nx (D.set i (some (pathD p'))) ()) := by
  subst hu1
  subst hu2
  have h1 := modN m u hu
  have h2 := divN m q hq hq2
  have h3 : gMod (.int ((m / q : Nat) : Int)) (.int 6) = some (.int ((m / q % 6 : Nat) : Int)) := modN (m / q) 6 (by decide)
  have h5 : m / q % 6 < (exs k c).length := Nat.mod_lt _ (by decide)
  generalize m / q % 6 = x at *
  have e1 : L2.atI ((exs k c).map pathD) (x : Int) = some (pathD ((exs k c)[x]'h5)) := by
    rw [atI_nat, List.getElem?_map, List.getElem?_eq_getElem h5]
    rfl
  have hx := exs_len k c _ (List.getElem_mem h5)
  generalize (exs k c)[x]'h5 = r at *
  have hg := gadd_paths p r (by omega)
  have hT : (fTst (fBin gEq (fBin gMod (fVar 6) (fC (.int (u : Int)))) (fC (.int 0))) : FT Unit) D () = some (decide (((m % u : Nat) : Int) = 0)) := by
    rw [fTst_ap, fBin_ap, fBin_ap, h6, fC_ap, fC_ap, bin2_s, h1, bin2_s, gEq_int]
    rfl
  rw [sIf_ap, hT]
  by_cases z : ((m % u : Nat) : Int) = 0
  · refine ⟨p ++ r, by rw [List.length_append]; omega, ?_⟩
    rw [decide_eq_true z, ifS_t, sAsg_ap, fBin_ap, h4, fBin_ap, h7, fBin_ap, fBin_ap, h6, fC_ap, fC_ap, bin2_s, h2, bin2_s, h3, bin2_s, gIx_list, e1, bin2_s, hg, asgO_s]
  · refine ⟨p, by omega, ?_⟩
    rw [decide_eq_false z, ifS_f, sNil_ap]
    congr 2
    have h8 : D[i]? = some (some (pathD p)) := by
      have h9 : (D[i]?).getD none = some (pathD p) := h4
      rw [List.getElem?_eq_getElem hi] at h9 ⊢
      exact congrArg some h9
    obtain ⟨h10, h11⟩ := List.getElem?_eq_some_iff.mp h8
    rw [← h11, List.set_getElem_self]
theorem F_deed_eq (ns : List Int) (base : Int) (j : J) (cj : Clean j) (hd1 : depth j ≤ 64) (hs : size j ≤ 300) : ∃ d, F_deed [scr ns, .int base, enc j] = some (encD d) ∧ okD d ∧ okV d := by
  obtain ⟨W, hW, hgt, hne, hl⟩ := F_ways_eq j cj hd1 hs
  have hWl : ∀ w ∈ W, w.1.length ≤ 64 := fun w hw => by have := gt_depth (hgt w hw); omega
  have main : ∃ d, b_deed F_ways F_mix F_lnamed F_clean F_get (F_turned 70) [some (scr ns), some (.int base), some (enc j), none, none, none, none, none, none, none, none] () = some (.rt (encD d) ()) ∧ okD d ∧ okV d := by
    unfold b_deed
    rw [sSeq_nx (D' := [some (scr ns), some (.int base), some (enc j), some (.list (W.map encW)), none, none, none, none, none, none, none]) (s' := ()) (by simp [hW])]
    obtain ⟨p, hp, e1⟩ := pick_way ns base (fVar 1) j W hWl hne [some (scr ns), some (.int base), some (enc j), some (.list (W.map encW)), none, none, none, none, none, none, none] rfl rfl rfl
    rw [sSeq_nx (D' := [some (scr ns), some (.int base), some (enc j), some (.list (W.map encW)), some (pathD p), none, none, none, none, none, none]) (s' := ()) (by rw [sAsg_ap, e1, asgO_s]; rfl)]
    obtain ⟨g, hg, e2⟩ := pick_way ns (base + 1) (fBin gAdd (fVar 1) (fC (.int 1))) j W hWl hne [some (scr ns), some (.int base), some (enc j), some (.list (W.map encW)), some (pathD p), none, none, none, none, none, none] rfl rfl rfl
    rw [sSeq_nx (D' := [some (scr ns), some (.int base), some (enc j), some (.list (W.map encW)), some (pathD p), some (pathD g), none, none, none, none, none]) (s' := ()) (by rw [sAsg_ap, e2, asgO_s]; rfl)]
    obtain ⟨m, hm⟩ := F_mix_eq ns (base + 2)
    rw [sSeq_nx (D' := [some (scr ns), some (.int base), some (enc j), some (.list (W.map encW)), some (pathD p), some (pathD g), some (.int (m : Int)), none, none, none, none]) (s' := ()) (by simp [hm])]
    have d7 : gFdiv (.int (m : Int)) (.int 7) = some (.int ((m / 7 : Nat) : Int)) := divN m 7 (by decide) (by decide)
    have m8 : gMod (.int ((m / 7 : Nat) : Int)) (.int 8) = some (.int ((m / 7 % 8 : Nat) : Int)) := modN (m / 7) 8 (by decide)
    have m10 : gMod (.int ((m / 7 : Nat) : Int)) (.int 10) = some (.int ((m / 7 % 10 : Nat) : Int)) := modN (m / 7) 10 (by decide)
    have hn := F_lnamed_eq (m / 7 % 8)
    rw [sSeq_nx (D' := [some (scr ns), some (.int base), some (enc j), some (.list (W.map encW)), some (pathD p), some (pathD g), some (.int (m : Int)), some (.list ((exs (m / 7 % 8) (48 + ((m / 7 % 10 : Nat) : Int))).map pathD)), none, none, none]) (s' := ()) (by
      generalize m / 7 % 8 = x1 at *
      generalize m / 7 % 10 = x2 at *
      generalize m / 7 = x3 at *
      simp [d7, m8, m10, hn, exs, pathD, nmD])]
    generalize m / 7 % 8 = x1 at *
    generalize (48 + ((m / 7 % 10 : Nat) : Int)) = x2 at *
    obtain ⟨p', hp', e3⟩ := more [some (scr ns), some (.int base), some (enc j), some (.list (W.map encW)), some (pathD p), some (pathD g), some (.int (m : Int)), some (.list ((exs x1 x2).map pathD)), none, none, none] 0 4 m 7 70 (by show 4 < 11; decide) p (by omega) x1 x2 7 70 rfl rfl (by decide) (by decide) (by decide) rfl rfl rfl
    rw [sSeq_nx (D' := [some (scr ns), some (.int base), some (enc j), some (.list (W.map encW)), some (pathD p'), some (pathD g), some (.int (m : Int)), some (.list ((exs x1 x2).map pathD)), none, none, none]) (s' := ()) e3]
    obtain ⟨g', hg', e4⟩ := more [some (scr ns), some (.int base), some (enc j), some (.list (W.map encW)), some (pathD p'), some (pathD g), some (.int (m : Int)), some (.list ((exs x1 x2).map pathD)), none, none, none] 0 5 m 3 77 (by show 5 < 11; decide) g (by omega) x1 x2 3 77 rfl rfl (by decide) (by decide) (by decide) rfl rfl rfl
    rw [sSeq_nx (D' := [some (scr ns), some (.int base), some (enc j), some (.list (W.map encW)), some (pathD p'), some (pathD g'), some (.int (m : Int)), some (.list ((exs x1 x2).map pathD)), none, none, none]) (s' := ()) e4]
    obtain ⟨m3, hm3⟩ := F_mix_eq ns (base + 3)
    have m6 : gMod (.int (m3 : Int)) (.int 6) = some (.int ((m3 % 6 : Nat) : Int)) := modN m3 6 (by decide)
    have hk6 : m3 % 6 < 6 := Nat.mod_lt _ (by decide)
    generalize m3 % 6 = k6 at *
    have hk : ∃ k : Wd, (k = .add ∨ k = .remove ∨ k = .replace ∨ k = .move ∨ k = .copy ∨ k = .test) ∧ L2.atI [PyData.str "add", .str "remove", .str "replace", .str "move", .str "copy", .str "test"] (k6 : Int) = some (.str k.s) := by
      have c : k6 = 0 ∨ k6 = 1 ∨ k6 = 2 ∨ k6 = 3 ∨ k6 = 4 ∨ k6 = 5 := by omega
      rcases c with rfl | rfl | rfl | rfl | rfl | rfl
      · exact ⟨.add, by decide, by simp [Wd.s]⟩
      · exact ⟨.remove, by decide, by simp [Wd.s]⟩
      · exact ⟨.replace, by decide, by simp [Wd.s]⟩
      · exact ⟨.move, by decide, by simp [Wd.s]⟩
      · exact ⟨.copy, by decide, by simp [Wd.s]⟩
      · exact ⟨.test, by decide, by simp [Wd.s]⟩
    obtain ⟨k, hk1, hk2⟩ := hk
    rw [sSeq_nx (D' := [some (scr ns), some (.int base), some (enc j), some (.list (W.map encW)), some (pathD p'), some (pathD g'), some (.int (m : Int)), some (.list ((exs x1 x2).map pathD)), some (.str k.s), none, none]) (s' := ()) (by simp [hm3, m6, hk2])]
    have mv : ∃ g'', g''.length ≤ 67 ∧ (sIf (fAndT (fTst (fBin gEq (fVar 8) (fC (.str "move")))) (fTst (fBin gEq (fBin gMod (fBin gFdiv (fVar 6) (fC (.int 5))) (fC (.int 3))) (fC (.int 0))))) (sAsg 5 (fBin gAdd (fVar 4) (fTup (fCons (fCall 1 F_lnamed (fCons (fBin gMod (fBin gFdiv (fVar 6) (fC (.int 15))) (fC (.int 8))) fNil)) fNil)))) sNil : FS Unit) [some (scr ns), some (.int base), some (enc j), some (.list (W.map encW)), some (pathD p'), some (pathD g'), some (.int (m : Int)), some (.list ((exs x1 x2).map pathD)), some (.str k.s), none, none] () = some (.nx [some (scr ns), some (.int base), some (enc j), some (.list (W.map encW)), some (pathD p'), some (pathD g''), some (.int (m : Int)), some (.list ((exs x1 x2).map pathD)), some (.str k.s), none, none] ()) := by
      have q1 : gEq (.str k.s) (.str "move") = some (.bool (decide (k = .move))) := gEq_wd k .move
      have d5 : gFdiv (.int (m : Int)) (.int 5) = some (.int ((m / 5 : Nat) : Int)) := divN m 5 (by decide) (by decide)
      have m5 : gMod (.int ((m / 5 : Nat) : Int)) (.int 3) = some (.int ((m / 5 % 3 : Nat) : Int)) := modN (m / 5) 3 (by decide)
      have d15 : gFdiv (.int (m : Int)) (.int 15) = some (.int ((m / 15 : Nat) : Int)) := divN m 15 (by decide) (by decide)
      have m15 : gMod (.int ((m / 15 : Nat) : Int)) (.int 8) = some (.int ((m / 15 % 8 : Nat) : Int)) := modN (m / 15) 8 (by decide)
      generalize m / 5 % 3 = y1 at *
      generalize m / 15 % 8 = y2 at *
      generalize m / 5 = y3 at *
      generalize m / 15 = y4 at *
      have hn2 := F_lnamed_eq y2
      have ha := gadd_path p' (lnm y2) (by omega)
      by_cases c : k = .move
      · rw [decide_eq_true c] at q1
        by_cases c2 : y1 = 0
        · exact ⟨p' ++ [lnm y2], by rw [List.length_append, List.length_singleton]; omega, by simp [q1, d5, m5, c2, d15, m15, hn2, ha]⟩
        · exact ⟨g', by omega, by simp [q1, d5, m5, c2]⟩
      · rw [decide_eq_false c] at q1
        exact ⟨g', by omega, by simp [q1]⟩
    obtain ⟨g'', hg'', e5⟩ := mv
    rw [sSeq_nx (D' := [some (scr ns), some (.int base), some (enc j), some (.list (W.map encW)), some (pathD p'), some (pathD g''), some (.int (m : Int)), some (.list ((exs x1 x2).map pathD)), some (.str k.s), none, none]) (s' := ()) e5]
    obtain ⟨m4, hm4⟩ := F_mix_eq ns (base + 5)
    have n4 : gMod (.int (m4 : Int)) (.int 4) = some (.int ((m4 % 4 : Nat) : Int)) := modN m4 4 (by decide)
    have hk4 : m4 % 4 < 4 := Nat.mod_lt _ (by decide)
    generalize m4 % 4 = k4 at *
    obtain ⟨v, hv, cv, sv⟩ := F_clean_eq ns (base + 4) (1 + k4) (by omega)
    rw [Int.natCast_add] at hv
    have hv' : F_clean [scr ns, .int (base + 4), .int (1 + (k4 : Int))] = some (enc v) := hv
    rw [sSeq_nx (D' := [some (scr ns), some (.int base), some (enc j), some (.list (W.map encW)), some (pathD p'), some (pathD g''), some (.int (m : Int)), some (.list ((exs x1 x2).map pathD)), some (.str k.s), some (enc v), none]) (s' := ()) (by simp [hm4, n4, hv'])]
    have dv := depth_le v
    rcases hk1 with rfl | rfl | rfl | rfl | rfl | rfl
    · refine ⟨.add g'' v, ?_, (by show g''.length < 70; omega), cv, by omega⟩
      refine sSeq_rt ?_
      simp [Wd.s, encD]
    · refine ⟨.rem p', ?_, (by show p'.length < 70; omega), trivial⟩
      rw [sSeq_nx (D' := [some (scr ns), some (.int base), some (enc j), some (.list (W.map encW)), some (pathD p'), some (pathD g''), some (.int (m : Int)), some (.list ((exs x1 x2).map pathD)), some (.str "remove"), some (enc v), none]) (s' := ()) (by simp [Wd.s])]
      refine sSeq_rt ?_
      simp [encD]
    · refine ⟨.rep p' v, ?_, (by show p'.length < 70; omega), cv, by omega⟩
      rw [sSeq_nx (D' := [some (scr ns), some (.int base), some (enc j), some (.list (W.map encW)), some (pathD p'), some (pathD g''), some (.int (m : Int)), some (.list ((exs x1 x2).map pathD)), some (.str "replace"), some (enc v), none]) (s' := ()) (by simp [Wd.s])]
      rw [sSeq_nx (D' := [some (scr ns), some (.int base), some (enc j), some (.list (W.map encW)), some (pathD p'), some (pathD g''), some (.int (m : Int)), some (.list ((exs x1 x2).map pathD)), some (.str "replace"), some (enc v), none]) (s' := ()) (by simp [Wd.s])]
      refine sSeq_rt ?_
      simp [encD]
    · refine ⟨.mv p' g'', ?_, ⟨by omega, by omega⟩, trivial⟩
      rw [sSeq_nx (D' := [some (scr ns), some (.int base), some (enc j), some (.list (W.map encW)), some (pathD p'), some (pathD g''), some (.int (m : Int)), some (.list ((exs x1 x2).map pathD)), some (.str "move"), some (enc v), none]) (s' := ()) (by simp [Wd.s])]
      rw [sSeq_nx (D' := [some (scr ns), some (.int base), some (enc j), some (.list (W.map encW)), some (pathD p'), some (pathD g''), some (.int (m : Int)), some (.list ((exs x1 x2).map pathD)), some (.str "move"), some (enc v), none]) (s' := ()) (by simp [Wd.s])]
      rw [sSeq_nx (D' := [some (scr ns), some (.int base), some (enc j), some (.list (W.map encW)), some (pathD p'), some (pathD g''), some (.int (m : Int)), some (.list ((exs x1 x2).map pathD)), some (.str "move"), some (enc v), none]) (s' := ()) (by simp [Wd.s])]
      rw [sSeq_nx (D' := [some (scr ns), some (.int base), some (enc j), some (.list (W.map encW)), some (pathD p'), some (pathD g''), some (.int (m : Int)), some (.list ((exs x1 x2).map pathD)), some (.str "move"), some (enc v), none]) (s' := ()) (by simp [Wd.s])]
      simp [encD]
    · refine ⟨.cp p' g'', ?_, ⟨by omega, by omega⟩, trivial⟩
      rw [sSeq_nx (D' := [some (scr ns), some (.int base), some (enc j), some (.list (W.map encW)), some (pathD p'), some (pathD g''), some (.int (m : Int)), some (.list ((exs x1 x2).map pathD)), some (.str "copy"), some (enc v), none]) (s' := ()) (by simp [Wd.s])]
      rw [sSeq_nx (D' := [some (scr ns), some (.int base), some (enc j), some (.list (W.map encW)), some (pathD p'), some (pathD g''), some (.int (m : Int)), some (.list ((exs x1 x2).map pathD)), some (.str "copy"), some (enc v), none]) (s' := ()) (by simp [Wd.s])]
      rw [sSeq_nx (D' := [some (scr ns), some (.int base), some (enc j), some (.list (W.map encW)), some (pathD p'), some (pathD g''), some (.int (m : Int)), some (.list ((exs x1 x2).map pathD)), some (.str "copy"), some (enc v), none]) (s' := ()) (by simp [Wd.s])]
      rw [sSeq_nx (D' := [some (scr ns), some (.int base), some (enc j), some (.list (W.map encW)), some (pathD p'), some (pathD g''), some (.int (m : Int)), some (.list ((exs x1 x2).map pathD)), some (.str "copy"), some (enc v), none]) (s' := ()) (by simp [Wd.s])]
      simp [encD]
    · have hg3 := F_get_eq j p' (by omega)
      have m5 : gMod (.int (m : Int)) (.int 5) = some (.int ((m % 5 : Nat) : Int)) := modN m 5 (by decide)
      generalize m % 5 = y at *
      have body : ∃ u, Clean u ∧ depth u ≤ 64 ∧ size u ≤ 1000000 ∧ (sSeq (sAsg 10 (fCall 2 F_get (fCons (fVar 2) (fCons (fVar 4) fNil)))) (sSeq (sIf (fAndT (fTru (fVar 10)) (fTst (fBin (gCmp pGt) (fBin gMod (fVar 6) (fC (.int 5))) (fC (.int 0))))) (sAsg 9 (fCall 2 (F_turned 70) (fCons (fBin gIx (fVar 10) (fC (.int 0))) (fCons (fVar 6) fNil)))) sNil) (sRet (fTup (fCons (fVar 8) (fCons (fVar 4) (fCons (fVar 9) fNil)))))) : FS Unit) [some (scr ns), some (.int base), some (enc j), some (.list (W.map encW)), some (pathD p'), some (pathD g''), some (.int (m : Int)), some (.list ((exs x1 x2).map pathD)), some (.str "test"), some (enc v), none] () = some (.rt (encD (.tst p' u)) ()) := by
        cases hq : gt j p' with
        | none =>
          refine ⟨v, cv, by omega, by omega, ?_⟩
          rw [hq] at hg3
          simp [hg3, encD]
        | some c =>
          rw [hq] at hg3
          have cc := gt_clean cj hq
          have dc := gt_depth hq
          have sc := gt_size hq
          by_cases z : 0 < y
          · have ht := F_turned_eq 70 c (m : Int) (by omega) (by omega)
            have st := tnd_size 70 c (m : Int)
            have dt := tnd_depth 70 c (m : Int)
            refine ⟨tnd 70 c (m : Int), tnd_clean 70 c _ cc, by omega, by omega, ?_⟩
            simp [hg3, m5, z, ht, encD]
          · refine ⟨v, cv, by omega, by omega, ?_⟩
            simp [hg3, m5, z, encD]
      obtain ⟨u, cu, du, su, hb⟩ := body
      refine ⟨.tst p' u, ?_, ⟨by omega, cu, du, su⟩, trivial⟩
      rw [sSeq_nx (D' := [some (scr ns), some (.int base), some (enc j), some (.list (W.map encW)), some (pathD p'), some (pathD g''), some (.int (m : Int)), some (.list ((exs x1 x2).map pathD)), some (.str "test"), some (enc v), none]) (s' := ()) (by simp [Wd.s])]
      rw [sSeq_nx (D' := [some (scr ns), some (.int base), some (enc j), some (.list (W.map encW)), some (pathD p'), some (pathD g''), some (.int (m : Int)), some (.list ((exs x1 x2).map pathD)), some (.str "test"), some (enc v), none]) (s' := ()) (by simp [Wd.s])]
      rw [sSeq_nx (D' := [some (scr ns), some (.int base), some (enc j), some (.list (W.map encW)), some (pathD p'), some (pathD g''), some (.int (m : Int)), some (.list ((exs x1 x2).map pathD)), some (.str "test"), some (enc v), none]) (s' := ()) (by simp [Wd.s])]
      refine sSeq_rt ?_
      have hT : (fTst (fBin gEq (fVar 8) (fC (.str "test"))) : FT Unit) [some (scr ns), some (.int base), some (enc j), some (.list (W.map encW)), some (pathD p'), some (pathD g''), some (.int (m : Int)), some (.list ((exs x1 x2).map pathD)), some (.str "test"), some (enc v), none] () = some true := by simp
      rw [sIf_ap, hT, ifS_t, hb]
  obtain ⟨d, h, h1, h2⟩ := main
  exact ⟨d, runF_rt h, h1, h2⟩
end Pl

namespace Pl
open PySem DL Pg
/-! ### the law -/
structure Fit (j : J) : Prop where
  cl : Clean j
  sz : size j ≤ 300
  dp : depth j ≤ 64
theorem F_clean_fit (ns : List Int) (base : Int) (k : Int) : ∃ v, Fit v ∧ ∀ D : Ds, fVar 0 D () = some (scr ns) → (fCall 3 F_clean (fCons (fVar 0) (fCons (fC (.int base)) (fCons (fBin gAdd (fC (.int 1)) (fBin gMod (fCall 2 F_mix (fCons (fVar 0) (fCons (fC (.int k)) fNil))) (fC (.int 9)))) fNil))) : FE Unit) D () = some (enc v) := by
  obtain ⟨m, hm⟩ := F_mix_eq ns k
  have m9 : gMod (.int (m : Int)) (.int 9) = some (.int ((m % 9 : Nat) : Int)) := modN m 9 (by decide)
  have h9 : m % 9 < 9 := Nat.mod_lt _ (by decide)
  generalize m % 9 = c at *
  obtain ⟨v, hv, cv, sv⟩ := F_clean_eq ns base (1 + c) (by omega)
  rw [Int.natCast_add] at hv
  have hv' : F_clean [scr ns, .int base, .int (1 + (c : Int))] = some (enc v) := hv
  have dv := depth_le v
  refine ⟨v, ⟨cv, by omega, by omega⟩, fun D h0 => ?_⟩
  rw [fCall_ap, fCons_ap, fCons_ap, fCons_ap, fNil_ap, fBin_ap, fBin_ap, fCall_ap, fCons_ap, fCons_ap, fNil_ap, h0, fC_ap, fC_ap, fC_ap, fC_ap]
  rw [consO_s, consO_s, callO_2, hm, bin2_s, m9, bin2_s, gAdd_int, consO_s, consO_s, consO_s, callO_3, hv']
abbrev lb1 := lb_law_1 F_clean F_mix F_done F_deed F_fits (F_turned 70) F_between (F_lalike 70) F_get F_named_ways
abbrev lb2 := lb_law_2 F_clean F_mix F_done F_deed F_fits (F_turned 70) F_between (F_lalike 70) F_get F_named_ways
abbrev lb3 := lb_law_3 F_clean F_mix F_done F_deed F_fits (F_turned 70) F_between (F_lalike 70) F_get F_named_ways
/-- one deed done, if it can be and fits -/
theorem law1_step (ns : List Int) (a j : J) (hj : Fit j) (k : Nat) (o4 : Option PyData) : ∃ j' o4', Fit j' ∧ lb1 [some (scr ns), some (enc a), some (enc j), some (.int (k : Int)), o4, none, none, none, none, none, none, none, none, none] () = some (.nx [some (scr ns), some (enc a), some (enc j'), some (.int (k : Int)), o4', none, none, none, none, none, none, none, none, none] ()) := by
  obtain ⟨d, hd, h1, h2⟩ := F_deed_eq ns (20 + 7 * (k : Int)) j hj.cl hj.dp hj.sz
  have hdn := F_done_eq j d (by have := hj.sz; omega) h1
  have m7 := mulc 7 (k : Int) (by decide)
  unfold lb1 lb_law_1
  rw [sSeq_nx (D' := [some (scr ns), some (enc a), some (enc j), some (.int (k : Int)), some (optD (dn j d)), none, none, none, none, none, none, none, none, none]) (s' := ()) (by simp [m7, hd, hdn])]
  cases hq : dn j d with
  | none => exact ⟨j, some (optD none), hj, by simp⟩
  | some j' =>
    obtain ⟨c1, c2⟩ := dn_ok hj.cl hj.dp h1 h2 hq
    have hf := F_fits_eq j' c2
    by_cases c : size j' ≤ 300 ∧ depth j' ≤ 64
    · rw [decide_eq_true c] at hf
      exact ⟨j', some (optD (some j')), ⟨c1, c.1, c.2⟩, by simp [hf]⟩
    · rw [decide_eq_false c] at hf
      exact ⟨j, some (optD (some j')), hj, by simp [hf]⟩
/-! one of the found deeds done -/
theorem words3 (w : Wd) : gNotIn (.str w.s) (.tuple [.str "add", .str "remove", .str "replace"]) = some (.bool (!decide (w = .add ∨ w = .remove ∨ w = .replace))) := by
  show (if [PyData.str Wd.add.s, PyData.str Wd.remove.s, PyData.str Wd.replace.s].all isS = true then some (PyData.bool (![PyData.str Wd.add.s, PyData.str Wd.remove.s, PyData.str Wd.replace.s].any (sameS w.s))) else none) = _
  rw [if_pos (show [PyData.str Wd.add.s, PyData.str Wd.remove.s, PyData.str Wd.replace.s].all isS = true from rfl)]
  show some (PyData.bool (!((Wd.add.s == w.s) || ((Wd.remove.s == w.s) || ((Wd.replace.s == w.s) || false))))) = _
  rw [Wd.eq, Wd.eq, Wd.eq]
  cases w <;> rfl
@[simp] theorem nin3_add : gNotIn (.str "add") (.tuple [.str "add", .str "remove", .str "replace"]) = some (.bool false) := words3 .add
@[simp] theorem nin3_remove : gNotIn (.str "remove") (.tuple [.str "add", .str "remove", .str "replace"]) = some (.bool false) := words3 .remove
@[simp] theorem nin3_replace : gNotIn (.str "replace") (.tuple [.str "add", .str "remove", .str "replace"]) = some (.bool false) := words3 .replace
@[simp] theorem gIntOf_t : gIntOf (.bool true) = some (.int 1) := nr rfl
@[simp] theorem gIntOf_f : gIntOf (.bool false) = some (.int 0) := nr rfl
@[simp] theorem gIsTup_path (p : List Nm) : gIsTup (pathD p) = some (.bool true) := nr rfl
@[simp] theorem gNe_ar : gNe (.str "add") (.str "remove") = some (.bool true) := gNe_wd .add .remove
@[simp] theorem gNe_rr : gNe (.str "remove") (.str "remove") = some (.bool false) := gNe_wd .remove .remove
@[simp] theorem gNe_pr : gNe (.str "replace") (.str "remove") = some (.bool true) := gNe_wd .replace .remove
theorem comp_tups (p : List Nm) (D : Ds) (hp : p.length ≤ 1000) (hD : 8 < D.length) : compO itemsT 8 fYes (fUn gIsTup (fVar 8)) (some (pathD p)) D () = some (.list (p.map fun _ => PyData.bool true)) := by
  refine compO_T (by rw [List.length_map]; omega) ?_
  refine compL_map (g := nmD) (fun _ => PyData.bool true) D () p fun x _ => ?_
  rw [fUn_ap, fVar_ap, List.getElem?_set_self hD]
  rfl
theorem law2_step (ns : List Int) (a b h h' : J) (ds : List Dd) (d : Dd) (o3 o4 : Option PyData) (hs : Sd [] 64 d) (hn : dn h d = some h') (hz : size h ≤ 500000) :
    lb2 [some (scr ns), some (enc a), some (enc b), o3, o4, some (.list (ds.map encD)), some (enc h), some (encD d), none, none, none, none, none, none] () = some (.nx [some (scr ns), some (enc a), some (enc b), o3, some (optD (some h')), some (.list (ds.map encD)), some (enc h'), some (encD d), none, none, none, none, none, none] ()) := by
  have hok : okD d := by
    cases hs with
    | @add q v _ h1 h2 => show q.length < 70; omega
    | @rem q _ h1 h2 => show q.length < 70; omega
    | @rep q v _ h2 => show q.length < 70; omega
  have hdn := F_done_eq h d hz hok
  rw [hn] at hdn
  have hall := fun p : List Nm => gAll_map (fun _ => true) p
  obtain ⟨p, hp, e1⟩ : ∃ p : List Nm, p.length ≤ 1000 ∧ gIx (encD d) (.int 1) = some (pathD p) := by
    cases hs with
    | @add q v _ h1 h2 => exact ⟨q, by omega, by simp [encD]⟩
    | @rem q _ h1 h2 => exact ⟨q, by omega, by simp [encD]⟩
    | @rep q v _ h2 => exact ⟨q, by omega, by simp [encD]⟩
  have hc := comp_tups p [some (scr ns), some (enc a), some (enc b), o3, o4, some (.list (ds.map encD)), some (enc h), some (encD d), none, none, none, none, none, none] hp (by show 8 < 14; decide)
  have ha := gAll_map (fun _ : Nm => true) p
  have hT : p.all (fun _ => true) = true := by simp
  rw [hT] at ha
  unfold lb2 lb_law_2
  rw [sSeq_nx (D' := [some (scr ns), some (enc a), some (enc b), o3, o4, some (.list (ds.map encD)), some (enc h), some (encD d), none, none, none, none, none, none]) (s' := ()) (by cases hs <;> simp [encD])]
  rw [sSeq_nx (D' := [some (scr ns), some (enc a), some (enc b), o3, o4, some (.list (ds.map encD)), some (enc h), some (encD d), none, none, none, none, none, none]) (s' := ()) (by cases hs <;> simp [encD])]
  rw [sSeq_nx (D' := [some (scr ns), some (enc a), some (enc b), o3, o4, some (.list (ds.map encD)), some (enc h), some (encD d), none, none, none, none, none, none]) (s' := ()) (by simp [e1, hc, ha])]
  rw [sSeq_nx (D' := [some (scr ns), some (enc a), some (enc b), o3, some (optD (some h')), some (.list (ds.map encD)), some (enc h), some (encD d), none, none, none, none, none, none]) (s' := ()) (by simp [hdn])]
  rw [sSeq_nx (D' := [some (scr ns), some (enc a), some (enc b), o3, some (optD (some h')), some (.list (ds.map encD)), some (enc h), some (encD d), none, none, none, none, none, none]) (s' := ()) (by simp)]
  simp
theorem law2_loop (ns : List Int) (a b : J) (dss : List Dd) (o3 : Option PyData) : ∀ (ds : List Dd) (h h' : J) (o4 o7 : Option PyData), (∀ d ∈ ds, Sd [] 64 d) → ap h ds = some h' → size h + ws ds ≤ 500000 →
    ∃ o4' o7', forL (st1 7) lb2 (ds.map encD) [some (scr ns), some (enc a), some (enc b), o3, o4, some (.list (dss.map encD)), some (enc h), o7, none, none, none, none, none, none] () = some (.nx [some (scr ns), some (enc a), some (enc b), o3, o4', some (.list (dss.map encD)), some (enc h'), o7', none, none, none, none, none, none] ())
  | [], h, h', o4, o7, _, ha, _ => by
    have e : h = h' := Option.some.inj ha
    subst e
    exact ⟨o4, o7, rfl⟩
  | d :: ds, h, h', o4, o7, hs, ha, hz => by
    obtain ⟨h1, hd, ha⟩ := bind_some (show (dn h d).bind (fun j' => ap j' ds) = some h' from ha)
    have hw : ws (d :: ds) = wg d + ws ds := by unfold ws; rw [List.map_cons, List.sum_cons]
    have hz1 := dn_size (hs d List.mem_cons_self) hd
    have hst := law2_step ns a b h h1 dss d o3 o4 (hs d List.mem_cons_self) hd (by omega)
    obtain ⟨o4', o7', ih⟩ := law2_loop ns a b dss o3 ds h1 h' (some (optD (some h1))) (some (encD d)) (fun x hx => hs x (List.mem_cons_of_mem _ hx)) ha (by omega)
    refine ⟨o4', o7', ?_⟩
    rw [List.map_cons, forL_1]
    have e : (List.set [some (scr ns), some (enc a), some (enc b), o3, o4, some (.list (dss.map encD)), some (enc h), o7, none, none, none, none, none, none] 7 (some (encD d))) = [some (scr ns), some (enc a), some (enc b), o3, o4, some (.list (dss.map encD)), some (enc h), some (encD d), none, none, none, none, none, none] := rfl
    rw [e, hst, after_nx, ih]
/-! the list of deeds and the empty list -/
theorem cl_encD {d : Dd} {p : List Nm} {N : Nat} (h : Sd p N d) : (encD d).canLay0 = true := by
  cases h with
  | @add q v _ h1 h2 =>
    unfold encD
    rw [PyData.canLay0]
    exact cl_all fun x hx => by
      simp at hx
      rcases hx with rfl | rfl | rfl
      · exact cl_wd .add
      · exact cl_path _
      · exact cl_enc _
  | @rem q _ h1 h2 =>
    unfold encD
    rw [PyData.canLay0]
    exact cl_all fun x hx => by
      simp at hx
      rcases hx with rfl | rfl
      · exact cl_wd .remove
      · exact cl_path _
  | @rep q v _ h2 =>
    unfold encD
    rw [PyData.canLay0]
    exact cl_all fun x hx => by
      simp at hx
      rcases hx with rfl | rfl | rfl
      · exact cl_wd .replace
      · exact cl_path _
      · exact cl_enc _
theorem gEq_nil (ds : List Dd) (h : ∀ d ∈ ds, Sd [] 64 d) : gEq (.list (ds.map encD)) (.list []) = some (.bool (decide (ds = []))) := by
  have h1 : (PyData.list (ds.map encD)).canLay0 = true := by
    rw [PyData.canLay0]
    exact cl_all fun x hx => by
      obtain ⟨d, hd, rfl⟩ := List.mem_map.mp hx
      exact cl_encD (h d hd)
  have h2 : (PyData.list []).canLay0 = true := by rw [PyData.canLay0, PyData.canLayAll0]
  have h3 : (PyData.list []).depth ≤ 200 := by rw [PyData.depth, PyData.depthAll]; decide
  rw [gEq_of h1 h2 (Nat.le_trans (Nat.min_le_right _ _) h3), PyData.eqv]
  cases ds with
  | nil => rw [List.map_nil, PyData.eqvAll]; rfl
  | cons d r => rw [List.map_cons, PyData.eqvAll]; rfl
theorem fgt_gt : ∀ (p : List Nm) (j v : J), fgt j p = some v → gt j p = some v
  | [], _, _, h => h
  | n :: r, j, v, h => by
    obtain ⟨ms, c, rfl, h1, h2⟩ := fgt_cons h
    rw [gt_cons, child_fld', h1, Option.bind_some]
    exact fgt_gt r c v h2
@[simp] theorem encD_1 (d : Dd) : gIx (encD d) (.int 1) = some (pathD (pth d)) := by
  cases d <;> simp [encD, pth]
theorem law3_step (ns : List Int) (a b : J) (fa : Fit a) (fb : Fit b) (h : PyData) (w : List Nm × J) (hw : fgt a w.1 = some w.2) (o3 o4 o7 o11 o12 : Option PyData) (hl : (gth 70 [] a b).length ≤ 16777216) :
    ∃ o11' o12', lb3 [some (scr ns), some (enc a), some (enc b), o3, o4, some (.list ((gth 70 [] a b).map encD)), some h, o7, none, some (pathD w.1), some (enc w.2), o11, o12, none] () = some (.nx [some (scr ns), some (enc a), some (enc b), o3, o4, some (.list ((gth 70 [] a b).map encD)), some h, o7, none, some (pathD w.1), some (enc w.2), o11', o12', none] ()) := by
  have hg := F_get_eq b w.1 (by have := fb.sz; omega)
  unfold lb3 lb_law_3
  rw [sSeq_nx (D' := [some (scr ns), some (enc a), some (enc b), o3, o4, some (.list ((gth 70 [] a b).map encD)), some h, o7, none, some (pathD w.1), some (enc w.2), some (optD (gt b w.1)), o12, none]) (s' := ()) (by simp [hg])]
  refine ⟨some (optD (gt b w.1)), ?_⟩
  cases hq : gt b w.1 with
  | none => exact ⟨o12, by simp⟩
  | some t =>
    have ct := gt_clean fb.cl hq
    have dt := gt_depth hq
    have st := gt_size hq
    have hwa := gt_size (fgt_gt _ _ _ hw)
    have f1 := fb.dp
    have f2 := fb.sz
    have f3 := fa.sz
    have hal := F_lalike_eq 70 w.2 t (by omega) (by omega) ct (by omega) (by omega)
    by_cases c : alk w.2 t = true
    · rw [c] at hal
      have hcomp : compO itemsL 7 (fTst (fBin gEq (fBin gIx (fVar 7) (fC (.int 1))) (fVar 9))) (fVar 7) (some (.list ((gth 70 [] a b).map encD))) [some (scr ns), some (enc a), some (enc b), o3, o4, some (.list ((gth 70 [] a b).map encD)), some h, o7, none, some (pathD w.1), some (enc w.2), some (.list [enc t]), o12, none] () = some (.list (((gth 70 [] a b).filter fun d => decide (pth d = w.1)).map encD)) := by
        refine compO_L (by rw [List.length_map]; exact hl) ?_
        refine compL_filter (fun d => decide (pth d = w.1)) encD _ () _ (fun d _ => ?_) fun d _ => ?_
        · simp [gEq_path]
        · simp
      obtain ⟨W, hW, hWf, hWl⟩ := F_named_ways_eq b fb.cl fb.dp fb.sz
      have hcomp2 : compO itemsL 13 (fTst (fBin gEq (fBin gIx (fVar 13) (fC (.int 0))) (fVar 9))) (fVar 13) (some (.list (W.map encW))) [some (scr ns), some (enc a), some (enc b), o3, o4, some (.list ((gth 70 [] a b).map encD)), some h, o7, none, some (pathD w.1), some (enc w.2), some (.list [enc t]), o12, none] () = some (.list ((W.filter fun x => decide (x.1 = w.1)).map encW)) := by
        refine compO_L (by rw [List.length_map]; omega) ?_
        refine compL_filter (fun x : List Nm × J => decide (x.1 = w.1)) encW _ () _ (fun x _ => ?_) fun x _ => ?_
        · simp [gEq_path]
        · simp
      by_cases c2 : ∃ x ∈ W, x.1 = w.1
      · obtain ⟨x, hx, ex⟩ := c2
        have hxf := hWf x hx
        rw [ex] at hxf
        have e : t = x.2 := by
          have := fgt_gt _ _ _ hxf
          rw [hq] at this
          exact Option.some.inj this
        have hno := gth_named 70 [] w.1 a b w.2 x.2 fa.cl hw hxf (e ▸ c)
        have hnil : (gth 70 [] a b).filter (fun d => decide (pth d = w.1)) = [] := List.filter_eq_nil_iff.mpr fun d hd z => hno d hd (by simpa using z)
        rw [hnil] at hcomp
        exact ⟨o12, by simp [hal, hcomp]⟩
      · have hnil : W.filter (fun x => decide (x.1 = w.1)) = [] := List.filter_eq_nil_iff.mpr fun x hx z => c2 ⟨x, hx, by simpa using z⟩
        rw [hnil] at hcomp2
        cases hf : (gth 70 [] a b).filter (fun d => decide (pth d = w.1)) with
        | nil =>
          rw [hf] at hcomp
          exact ⟨o12, by simp [hal, hcomp]⟩
        | cons d r =>
          rw [hf] at hcomp
          exact ⟨some (.list []), by simp [hal, hcomp, hW, hcomp2]⟩
    · have c' : alk w.2 t = false := by simpa using c
      rw [c'] at hal
      exact ⟨o12, by simp [hal]⟩
end Pl

namespace Pl
open PySem DL Pg
/-! ### the whole law -/
theorem law_other (ns : List Int) (a b0 : J) (fa : Fit a) (fb : Fit b0) : ∃ b o3 o4, Fit b ∧ (sIf (fTst (fBin (gCmp pGt) (fBin gMod (fCall 2 F_mix (fCons (fVar 0) (fCons (fC (.int 60)) fNil))) (fC (.int 3))) (fC (.int 0))))
  (sSeq (sAsg 2 (fVar 1))
  (sSeq (sFor range1 (st1 3) (fBin gMod (fCall 2 F_mix (fCons (fVar 0) (fCons (fC (.int 59)) fNil))) (fC (.int 5))) lb1)
  (sAsg 2 (fCall 2 (F_turned 70) (fCons (fVar 2) (fCons (fCall 2 F_mix (fCons (fVar 0) (fCons (fC (.int 58)) fNil))) fNil))))))
  sNil : FS Unit) [some (scr ns), some (enc a), some (enc b0), none, none, none, none, none, none, none, none, none, none, none] () = some (.nx [some (scr ns), some (enc a), some (enc b), o3, o4, none, none, none, none, none, none, none, none, none] ()) := by
  obtain ⟨m60, h60⟩ := F_mix_eq ns 60
  obtain ⟨m59, h59⟩ := F_mix_eq ns 59
  obtain ⟨m58, h58⟩ := F_mix_eq ns 58
  have m3 : gMod (.int (m60 : Int)) (.int 3) = some (.int ((m60 % 3 : Nat) : Int)) := modN m60 3 (by decide)
  have m5 : gMod (.int (m59 : Int)) (.int 5) = some (.int ((m59 % 5 : Nat) : Int)) := modN m59 5 (by decide)
  have l5 : m59 % 5 < 5 := Nat.mod_lt _ (by decide)
  generalize m60 % 3 = x at *
  generalize m59 % 5 = c at *
  by_cases z : 0 < x
  · obtain ⟨D, s, h1, j, o3, o4, fj, rfl⟩ := forL_fold (S := Unit) (st := st1 3) (b := lb1) (g := fun (k : Nat) => PyData.int (k : Int)) (fun _ _ => ()) (fun (_ : Unit) D _ => ∃ j o3 o4, Fit j ∧ D = [some (scr ns), some (enc a), some (enc j), o3, o4, none, none, none, none, none, none, none, none, none]) (List.range c) () [some (scr ns), some (enc a), some (enc a), none, none, none, none, none, none, none, none, none, none, none] () (by
      rintro k hk _ D s ⟨j, o3, o4, fj, rfl⟩
      obtain ⟨j', o4', fj', h⟩ := law1_step ns a j fj k o4
      exact ⟨_, rfl, _, (), h, j', _, o4', fj', rfl⟩) ⟨a, none, none, fa, rfl⟩
    have f1 := fj.dp
    have f2 := fj.sz
    have ht := F_turned_eq 70 j (m58 : Int) (by omega) (by omega)
    have ts := tnd_size 70 j (m58 : Int)
    have td := tnd_depth 70 j (m58 : Int)
    have tc := tnd_clean 70 j (m58 : Int) fj.cl
    refine ⟨tnd 70 j (m58 : Int), o3, o4, ⟨tc, by omega, by omega⟩, ?_⟩
    have hT : (fTst (fBin (gCmp pGt) (fBin gMod (fCall 2 F_mix (fCons (fVar 0) (fCons (fC (.int 60)) fNil))) (fC (.int 3))) (fC (.int 0))) : FT Unit) [some (scr ns), some (enc a), some (enc b0), none, none, none, none, none, none, none, none, none, none, none] () = some true := by simp [h60, m3, z]
    rw [sIf_ap, hT, ifS_t]
    rw [sSeq_nx (D' := [some (scr ns), some (enc a), some (enc a), none, none, none, none, none, none, none, none, none, none, none]) (s' := ()) (by simp)]
    have hf : sFor range1 (st1 3) (fBin gMod (fCall 2 F_mix (fCons (fVar 0) (fCons (fC (.int 59)) fNil))) (fC (.int 5))) lb1 [some (scr ns), some (enc a), some (enc a), none, none, none, none, none, none, none, none, none, none, none] () = forL (st1 3) lb1 ((List.range c).map fun (k : Nat) => PyData.int (k : Int)) [some (scr ns), some (enc a), some (enc a), none, none, none, none, none, none, none, none, none, none, none] () := by
      rw [sFor_ap]
      have e : (fBin gMod (fCall 2 F_mix (fCons (fVar 0) (fCons (fC (.int 59)) fNil))) (fC (.int 5)) : FE Unit) [some (scr ns), some (enc a), some (enc a), none, none, none, none, none, none, none, none, none, none, none] () = some (.int (c : Int)) := by simp [h59, m5]
      rw [e]
      exact forO_R (range1_nat c (by omega))
    rw [sSeq_nx (hf.trans h1)]
    simp [h58, ht]
  · refine ⟨b0, none, none, fb, ?_⟩
    have hT : (fTst (fBin (gCmp pGt) (fBin gMod (fCall 2 F_mix (fCons (fVar 0) (fCons (fC (.int 60)) fNil))) (fC (.int 3))) (fC (.int 0))) : FT Unit) [some (scr ns), some (enc a), some (enc b0), none, none, none, none, none, none, none, none, none, none, none] () = some false := by simp [h60, m3, z]
    rw [sIf_ap, hT, ifS_f, sNil_ap]
theorem plain (ns : List Int) : F_law [.list (ns.map PyData.int)] = some (.bool true) := by
  obtain ⟨a, fa, ha⟩ := F_clean_fit ns 0 62
  obtain ⟨b0, fb0, hb0⟩ := F_clean_fit ns 12 61
  obtain ⟨b, o3, o4, fb, hb⟩ := law_other ns a b0 fa fb0
  refine runF_rt ?_
  show b_law F_clean F_mix F_done F_deed F_fits (F_turned 70) F_between (F_lalike 70) F_get F_named_ways [some (scr ns), none, none, none, none, none, none, none, none, none, none, none, none, none] () = _
  unfold b_law
  rw [sSeq_nx (D' := [some (scr ns), some (enc a), none, none, none, none, none, none, none, none, none, none, none, none]) (s' := ()) (by rw [sAsg_ap, ha _ rfl, asgO_s]; rfl)]
  rw [sSeq_nx (D' := [some (scr ns), some (enc a), some (enc b0), none, none, none, none, none, none, none, none, none, none, none]) (s' := ()) (by rw [sAsg_ap, hb0 _ rfl, asgO_s]; rfl)]
  rw [sSeq_nx hb]
  have f1 := fa.dp
  have f2 := fa.sz
  have f3 := fb.dp
  have f4 := fb.sz
  have hbt := F_between_eq a b f3 f2 f4
  have hw := gth_ws 70 [] a b 600 (by omega)
  have hl := ws_len (gth 70 [] a b)
  have hmm : size a * 600 ≤ 300 * 600 := Nat.mul_le_mul_right 600 f2
  have hsd : ∀ d ∈ gth 70 [] a b, Sd [] 64 d := fun d hd => by
    have h := gth_sd 70 [] a b d hd
    cases h with
    | add h1 h2 => exact .add h1 (by omega)
    | rem h1 h2 => exact .rem h1 (by omega)
    | rep h2 => exact .rep (by omega)
  have hal := F_lalike_eq 70 a b (by omega) (by omega) fb.cl (by omega) (by omega)
  have hnil := gEq_nil (gth 70 [] a b) hsd
  have hiff : decide (gth 70 [] a b = []) = alk a b := by
    cases hq : alk a b with
    | true => rw [gth_alk 70 [] a b hq]; rfl
    | false =>
      refine decide_eq_false fun z => ?_
      rw [gth_nil 70 [] a b (by omega) fa.cl fb.cl z] at hq
      cases hq
  rw [hiff] at hnil
  obtain ⟨h', hap, hak⟩ := gth_good 70 a b (by omega) fa.cl fb.cl
  rw [sSeq_nx (D' := [some (scr ns), some (enc a), some (enc b), o3, o4, some (.list ((gth 70 [] a b).map encD)), none, none, none, none, none, none, none, none]) (s' := ()) (by simp [hbt])]
  rw [sSeq_nx (D' := [some (scr ns), some (enc a), some (enc b), o3, o4, some (.list ((gth 70 [] a b).map encD)), none, none, none, none, none, none, none, none]) (s' := ()) (by simp [hnil, hal])]
  rw [sSeq_nx (D' := [some (scr ns), some (enc a), some (enc b), o3, o4, some (.list ((gth 70 [] a b).map encD)), some (enc a), none, none, none, none, none, none, none]) (s' := ()) (by simp)]
  obtain ⟨o4', o7', hl2⟩ := law2_loop ns a b (gth 70 [] a b) o3 (gth 70 [] a b) a h' o4 none hsd hap (by omega)
  have hsz : size h' ≤ 1000000 := by
    have : ∀ (ds : List Dd) (j j' : J), (∀ d ∈ ds, Sd [] 64 d) → ap j ds = some j' → size j' ≤ size j + ws ds := fun ds => by
      induction ds with
      | nil => intro j j' _ h; have e : j = j' := Option.some.inj h; subst e; exact Nat.le_add_right _ _
      | cons d r ih =>
        intro j j' hs h
        obtain ⟨j1, h1, h2⟩ := bind_some (show (dn j d).bind (fun j' => ap j' r) = some j' from h)
        have h3 := dn_size (hs d List.mem_cons_self) h1
        have h4 := ih j1 j' (fun x hx => hs x (List.mem_cons_of_mem _ hx)) h2
        have hw : ws (d :: r) = wg d + ws r := by unfold ws; rw [List.map_cons, List.sum_cons]
        omega
    have := this _ _ _ hsd hap
    omega
  have hf2 : sFor itemsL (st1 7) (fVar 5) lb2 [some (scr ns), some (enc a), some (enc b), o3, o4, some (.list ((gth 70 [] a b).map encD)), some (enc a), none, none, none, none, none, none, none] () = forL (st1 7) lb2 ((gth 70 [] a b).map encD) [some (scr ns), some (enc a), some (enc b), o3, o4, some (.list ((gth 70 [] a b).map encD)), some (enc a), none, none, none, none, none, none, none] () := by simp
  rw [sSeq_nx (hf2.trans hl2)]
  have hal2 := F_lalike_eq 70 h' b (by omega) (by omega) fb.cl (by omega) (by omega)
  rw [hak] at hal2
  rw [sSeq_nx (D' := [some (scr ns), some (enc a), some (enc b), o3, o4', some (.list ((gth 70 [] a b).map encD)), some (enc h'), o7', none, none, none, none, none, none]) (s' := ()) (by simp [hal2])]
  obtain ⟨W, hW, hWf, hWl⟩ := F_named_ways_eq a fa.cl fa.dp fa.sz
  obtain ⟨D, s, h3, o9, o10, o11, o12, rfl⟩ := forL_fold (S := Unit) (st := st2 9 10) (b := lb3) (g := encW) (fun _ _ => ()) (fun (_ : Unit) D _ => ∃ o9 o10 o11 o12, D = [some (scr ns), some (enc a), some (enc b), o3, o4', some (.list ((gth 70 [] a b).map encD)), some (enc h'), o7', none, o9, o10, o11, o12, none]) W () [some (scr ns), some (enc a), some (enc b), o3, o4', some (.list ((gth 70 [] a b).map encD)), some (enc h'), o7', none, none, none, none, none, none] () (by
    rintro w hw _ D s ⟨o9, o10, o11, o12, rfl⟩
    obtain ⟨o11', o12', h⟩ := law3_step ns a b fa fb (enc h') w (hWf w hw) o3 o4' o7' o11 o12 (by omega)
    exact ⟨_, rfl, _, (), h, _, _, o11', o12', rfl⟩) ⟨none, none, none, none, rfl⟩
  have hf3 : sFor itemsL (st2 9 10) (fCall 1 F_named_ways (fCons (fVar 1) fNil)) lb3 [some (scr ns), some (enc a), some (enc b), o3, o4', some (.list ((gth 70 [] a b).map encD)), some (enc h'), o7', none, none, none, none, none, none] () = forL (st2 9 10) lb3 (W.map encW) [some (scr ns), some (enc a), some (enc b), o3, o4', some (.list ((gth 70 [] a b).map encD)), some (enc h'), o7', none, none, none, none, none, none] () := by simp [hW]
  rw [sSeq_nx (hf3.trans h3)]
  rfl
end Pl

namespace Pg
open PySem PySem.Spec PyProof.Rows L2 DL
theorem sc_put_in : FnScope ["_law_frames", "_law_value_here"] ["_law_frames", "_law_value_here"] (defScope s_put_in) := ⟨rfl, rfl, rfl, by decide +kernel, rfl, by decide +kernel, by decide +kernel⟩
theorem sc_shut : FnScope ["_law_frames", "_law_frame", "_law_value_here"] ["_law_frames"] (defScope s_shut) := ⟨rfl, rfl, rfl, by decide +kernel, rfl, by decide +kernel, by decide +kernel⟩
theorem sc_clean : FnScope ["_law_script", "_law_base", "_law_many_here", "_law_frames", "_law_value_here", "_law_k", "_law_number"] ["_law_script", "_law_base", "_law_many_here"] (defScope s_clean) := ⟨rfl, rfl, rfl, by decide +kernel, rfl, by decide +kernel, by decide +kernel⟩
variable {P : Program} {w : World} {K : PySem.W.Frag} {mg : Str → Option Value} {base : Heap}
theorem bd_put_in {f : Addr} {fd : FuncData} (F : At1 K mg "_law_put_in" s_put_in f fd) : Binds K fd ["_law_frames", "_law_value_here"] [] := F.fn.binds (ps := ["_law_frames", "_law_value_here"]) fun _ _ _ _ _ _ us hl => match us, hl with | [_, _], _ => rfl
theorem ok_put_in {f : Addr} {fd : FuncData} {l_lnamed : Nat} {k : Nat} (M : Free mg) (F : At1 K mg "_law_put_in" s_put_in f fd) {F_lnamed : List PyData → Option PyData} (C_lnamed : DefOk P w K mg base l_lnamed "_law_named" 1 F_lnamed) (h_lnamed : l_lnamed ≤ k) : DefOkF P w K mg base (k + 1) "_law_put_in" 1 (runP 1 (b_put_in F_lnamed)) :=
  def_okF (y := "_law_frames") (N := ["_law_value_here"]) (ps := ["_law_value_here"]) (fb := b_put_in F_lnamed) F (bd_put_in F) sc_put_in (fun cdv A outer s H E Hi B l hr =>
    pss_d1 (psd_if (PW.pt (wd_and (td_frT (pv 0)) (pw_and1 (td_eq (room_eq hr) (pd_topKind (pv 0)) pd_str))))
      (pss_d1 (psd_topApp (pv 0) (pd_var 1)))
      (pss_d1 (psd_if (td_frT (pv 0))
        (pss_d1 (psd_topApp (pv 0) (pd_tup (ad_cons (pd_call C_lnamed hr (by omega) (ad_cons (pd_topLen M.len (pv 0)) ad_nil)) (ad_cons (pd_var 1) ad_nil)))))
        pss_dnil))))
theorem bd_shut {f : Addr} {fd : FuncData} (F : At1 K mg "_law_shut" s_shut f fd) : Binds K fd ["_law_frames"] [] := F.fn.binds (ps := ["_law_frames"]) fun _ _ _ _ _ _ us hl => match us, hl with | [_], _ => rfl
theorem ok_shut {f : Addr} {fd : FuncData} {l_put_in : Nat} {k : Nat} (M : Free mg) (F : At1 K mg "_law_shut" s_shut f fd) {FF_put_in : Fs → List PyData → Option (PyData × Fs)} (C_put_in : DefOkF P w K mg base l_put_in "_law_put_in" 1 FF_put_in) (h_put_in : l_put_in ≤ k) : DefOkF P w K mg base (k + 1) "_law_shut" 0 (runP 2 (b_shut FF_put_in)) :=
  def_okF (y := "_law_frames") (N := ["_law_frame", "_law_value_here"]) (ps := []) (fb := b_shut FF_put_in) F (bd_shut F) sc_shut (fun cdv A outer s H E Hi B l hr =>
    pss_d (psd_pop (i := 1) sc_shut.nd rfl (Or.inl rfl) rfl (pv 0))
    (pss_d (psd_set (i := 2) sc_shut.nd rfl (Or.inl rfl) rfl (pd_tup (ad_cons (pd_ix (pd_var 1) pd_int) (ad_cons (pd_tupleOf M.tuple (pd_ix (pd_var 1) pd_int)) ad_nil))))
    (pss_d (psd_callF C_put_in hr (by omega) (pv 0) (ad_cons (pd_var 2) ad_nil))
    (pss_d1 (psd_ret (pd_var 2))))))
theorem bd_clean {f : Addr} {fd : FuncData} (F : At1 K mg "_law_clean" s_clean f fd) : Binds K fd ["_law_script", "_law_base", "_law_many_here"] [] := F.fn.binds (ps := ["_law_script", "_law_base", "_law_many_here"]) fun _ _ _ _ _ _ us hl => match us, hl with | [_, _, _], _ => rfl
theorem ok_clean {f : Addr} {fd : FuncData} {l_mix l_small_value l_shut l_put_in : Nat} {k : Nat} (M : Free mg) (F : At1 K mg "_law_clean" s_clean f fd) {F_mix : List PyData → Option PyData} (C_mix : DefOk P w K mg base l_mix "_law_mix" 2 F_mix) {F_small_value : List PyData → Option PyData} (C_small_value : DefOk P w K mg base l_small_value "_law_small_value" 1 F_small_value)
    {FF_shut : Fs → List PyData → Option (PyData × Fs)} (C_shut : DefOkF P w K mg base l_shut "_law_shut" 0 FF_shut) {FF_put_in : Fs → List PyData → Option (PyData × Fs)} (C_put_in : DefOkF P w K mg base l_put_in "_law_put_in" 1 FF_put_in)
    (h_mix : l_mix ≤ k) (h_small : l_small_value ≤ k) (h_shut : l_shut ≤ k) (h_put_in : l_put_in ≤ k) : DefOk P w K mg base (k + 1) "_law_clean" 3 (runF 7 (b_clean F_mix F_small_value FF_shut FF_put_in)) :=
  def_ok (N := ["_law_script", "_law_base", "_law_many_here", "_law_frames", "_law_value_here", "_law_k", "_law_number"]) (ps := ["_law_script", "_law_base", "_law_many_here"]) (fb := b_clean F_mix F_small_value FF_shut FF_put_in) F (bd_clean F) sc_clean (fun cdv A outer s H E Hi hr =>
    pss_newF (j := 3) sc_clean.nd rfl (Or.inl rfl) (fun l =>
    pss_d (psd_set (i := 4) sc_clean.nd rfl (Or.inl rfl) rfl pd_non)
    (pss_d (psd_forR rfl PassesOwn.never M.range (pd_var 2) (pg_name (i := 5) sc_clean.nd rfl (Or.inl rfl)) (tgt1 rfl)
      (pss_d (psd_set (i := 6) sc_clean.nd rfl (Or.inl rfl) rfl (pd_call C_mix hr (by omega) (ad_cons (pd_var 0) (ad_cons (pd_add (pd_var 1) (pd_var 5)) ad_nil))))
      (pss_d1 (psd_if (PW.pt (wd_and (td_frT (pv 3)) (pw_and1 (td_eq (room_eq hr) (pd_mod (pd_var 6) pd_int) pd_int))))
        (pss_d1 (psd_setF (i := 4) C_shut hr (by omega) sc_clean.nd rfl (Or.inl rfl) rfl (pv 3) ad_nil))
        (pss_d1 (psd_if (PW.pt (wd_or (td_frT (pv 3)) (pw_or1 (td_eq (room_eq hr) (pd_var 5) pd_int))))
          (pss_d1 (psd_if (PW.pt (wd_or (td_gt (pd_mod (pd_var 6) pd_int) pd_int) (pw_or1 (PW.pt (wd_and (td_eq (room_eq hr) (pd_var 5) pd_int) (pw_and1 (td_gt (pd_mod (pd_var 6) pd_int) pd_int)))))))
            (pss_d1 (psd_push (pv 3) (pd_ix (pd_lst (ad_cons pd_str (ad_cons pd_str ad_nil))) (pd_mod (pd_fdiv (pd_var 6) pd_int) pd_int))))
            (pss_d (psd_set (i := 4) sc_clean.nd rfl (Or.inl rfl) rfl (pd_call C_small_value hr (by omega) (ad_cons (pd_fdiv (pd_var 6) pd_int) ad_nil)))
            (pss_d1 (psd_callF C_put_in hr (by omega) (pv 3) (ad_cons (pd_var 4) ad_nil))))))
          pss_dnil))))))
    (pss_d (psd_while 100000 PassesOwn.never (td_frT (pv 3))
      (pss_d1 (psd_setF (i := 4) C_shut hr (by omega) sc_clean.nd rfl (Or.inl rfl) rfl (pv 3) ad_nil)))
    (pss_d1 (psd_ret (pd_var 4)))))))
theorem bd_figures {f : Addr} {fd : FuncData} (F : At1 K mg "figures" s_figures f fd) : Binds K fd ["number"] [] := F.fn.binds (ps := ["number"]) fun _ _ _ _ _ _ us hl => match us, hl with | [_], _ => rfl
theorem ok_figures {f : Addr} {fd : FuncData} {k : Nat} (M : Free mg) (F : At1 K mg "figures" s_figures f fd)   : DefOk P w K mg base (k + 1) "figures" 1 (runF 2 b_figures) :=
  def_ok (N := ["number", "sign"]) (ps := ["number"]) (fb := b_figures) F (bd_figures F) sc_figures (fun cdv A outer s H E Hi hr =>
  (pss_d1 (psd_ret (pd_codes (i := 1) (nm := "sign") rfl sc_figures.nd (pd_var 0) (blkOk_by (own := [("sign", 1)]) (N := ["number", "sign"]) (sc := defScope s_figures) (by decide +kernel)) M.str M.ord rfl (Or.inl rfl) (hgn := fun _ _ _ _ _ => pg_name (i := 1) sc_figures.nd rfl (Or.inl rfl)) (hv := fun _ _ _ _ _ => pv 1)))))
theorem bd_named {f : Addr} {fd : FuncData} (F : At1 K mg "named" s_named f fd) : Binds K fd ["pairs", "name"] [] := F.fn.binds (ps := ["pairs", "name"]) fun _ _ _ _ _ _ us hl => match us, hl with | [_, _], _ => rfl
theorem ok_named {f : Addr} {fd : FuncData} {k : Nat} (M : Free mg) (F : At1 K mg "named" s_named f fd)   : DefOk P w K mg base (k + 1) "named" 2 (runF 4 b_named) :=
  def_ok (N := ["pairs", "name", "at", "pair"]) (ps := ["pairs", "name"]) (fb := b_named) F (bd_named F) sc_named (fun cdv A outer s H E Hi hr =>
  (pss_d (psd_set (i := 2) sc_named.nd rfl (Or.inl rfl) rfl pd_int)
  (pss_d (psd_forT rfl PassesOwn.never (pd_var 0) (pg_name (i := 3) sc_named.nd rfl (Or.inl rfl)) (tgt1 rfl)
  (pss_d (psd_if (td_eq (room_eq hr) (pd_ix (pd_var 3) pd_int) (pd_var 1))
  (pss_d1 (psd_ret (pd_var 2)))
  pss_dnil)
  (pss_d1 (psd_set (i := 2) sc_named.nd rfl (Or.inl rfl) rfl (pd_add (pd_var 2) pd_int)))))
  (pss_d1 (psd_ret (pd_neg pd_int))))))
theorem bd_alike {f : Addr} {fd : FuncData} (F : At1 K mg "alike" s_alike f fd) : Binds K fd ["one", "other"] [] := F.fn.binds (ps := ["one", "other"]) fun _ _ _ _ _ _ us hl => match us, hl with | [_, _], _ => rfl
theorem ok_alike {f : Addr} {fd : FuncData} {l_alike l_named : Nat} {k : Nat} (M : Free mg) (F : At1 K mg "alike" s_alike f fd) {F_alike_ : List PyData → Option PyData} (C_alike : DefOk P w K mg base l_alike "alike" 2 F_alike_) {F_named : List PyData → Option PyData} (C_named : DefOk P w K mg base l_named "named" 2 F_named) (h_alike : l_alike ≤ k) (h_named : l_named ≤ k) : DefOk P w K mg base (k + 1) "alike" 2 (runF 5 (b_alike F_alike_ F_named)) :=
  def_ok (N := ["one", "other", "k", "pair", "at"]) (ps := ["one", "other"]) (fb := (b_alike F_alike_ F_named)) F (bd_alike F) sc_alike (fun cdv A outer s H E Hi hr =>
  (pss_d (psd_if (PW.pt (wd_or (td_not (td_tru (pd_isTup M.isinstance M.tuple (pd_var 0)))) (wd_or (td_not (td_tru (pd_isTup M.isinstance M.tuple (pd_var 1)))) (pw_or1 (td_ne (room_eq hr) (pd_ix (pd_var 0) pd_int) (pd_ix (pd_var 1) pd_int))))))
  (pss_d1 (psd_ret (pd_eq (room_eq hr) (pd_var 0) (pd_var 1))))
  pss_dnil)
  (pss_d (psd_if (td_notIn (pd_ix (pd_var 0) pd_int) (pd_tup (ad_cons pd_str (ad_cons pd_str ad_nil))))
  (pss_d1 (psd_ret (pd_eq (room_eq hr) (pd_var 0) (pd_var 1))))
  pss_dnil)
  (pss_d (psd_if (td_ne (room_eq hr) (pd_len M.len (pd_ix (pd_var 0) pd_int)) (pd_len M.len (pd_ix (pd_var 1) pd_int)))
  (pss_d1 (psd_ret pd_bl))
  pss_dnil)
  (pss_d (psd_if (td_eq (room_eq hr) (pd_ix (pd_var 0) pd_int) pd_str)
  (pss_d1 (psd_ret (pd_all rfl M.all (pd_lcR rfl sc_alike.nd M.range (pd_len M.len (pd_ix (pd_var 0) pd_int)) (blkOk_by (own := [("k", 2)]) (N := ["one", "other", "k", "pair", "at"]) (sc := defScope s_alike) (by decide +kernel)) rfl (fun _ _ _ _ _ => pg_name (i := 2) sc_alike.nd rfl (Or.inl rfl)) (fun _ _ _ _ _ => pts_d0) (fun _ _ _ _ _ => (pd_call C_alike hr (by omega) (ad_cons (pd_ix (pd_ix (pd_var 0) pd_int) (pd_var 2)) (ad_cons (pd_ix (pd_ix (pd_var 1) pd_int) (pd_var 2)) ad_nil))))))))
  pss_dnil)
  (pss_d (psd_forT rfl PassesOwn.never (pd_ix (pd_var 0) pd_int) (pg_name (i := 3) sc_alike.nd rfl (Or.inl rfl)) (tgt1 rfl)
  (pss_d (psd_set (i := 4) sc_alike.nd rfl (Or.inl rfl) rfl (pd_call C_named hr (by omega) (ad_cons (pd_ix (pd_var 1) pd_int) (ad_cons (pd_ix (pd_var 3) pd_int) ad_nil))))
  (pss_d1 (psd_if (PW.pt (wd_or (td_lt (pd_var 4) pd_int) (pw_or1 (td_not (td_tru (pd_call C_alike hr (by omega) (ad_cons (pd_ix (pd_var 3) pd_int) (ad_cons (pd_ix (pd_ix (pd_ix (pd_var 1) pd_int) (pd_var 4)) pd_int) ad_nil))))))))
  (pss_d1 (psd_ret pd_bl))
  pss_dnil))))
  (pss_d1 (psd_ret pd_bl))))))))
theorem bd_gather_members {f : Addr} {fd : FuncData} (F : At1 K mg "gather_members" s_gather_members f fd) : Binds K fd ["found", "names", "one", "other"] [] := F.fn.binds (ps := ["found", "names", "one", "other"]) fun _ _ _ _ _ _ us hl => match us, hl with | [_, _, _, _], _ => rfl
theorem ok_gather_members {f : Addr} {fd : FuncData} {l_named l_gather : Nat} {k : Nat} (M : Free mg) (F : At1 K mg "gather_members" s_gather_members f fd) {F_named : List PyData → Option PyData} (C_named : DefOk P w K mg base l_named "named" 2 F_named) {FO_gather : List PyData → List PyData → Option (List PyData)} (C_gather : DefOkO P w K mg base l_gather "gather" 3 FO_gather) (h_named : l_named ≤ k) (h_gather : l_gather ≤ k) : DefOkO P w K mg base (k + 1) "gather_members" 3 (runO 5 (b_gather_members F_named FO_gather)) :=
  def_okO (y := "found") (N := ["names", "one", "other", "pair", "k"]) (ps := ["names", "one", "other"]) (fb := (b_gather_members F_named FO_gather)) F (bd_gather_members F) sc_gather_members (fun cdv A outer s H E Hi l hr =>
  (pss_d (psd_forT rfl PassesOwn.never (pd_var 2) (pg_name (i := 4) sc_gather_members.nd rfl (Or.inl rfl)) (tgt1 rfl)
  (pss_d (psd_set (i := 5) sc_gather_members.nd rfl (Or.inl rfl) rfl (pd_call C_named hr (by omega) (ad_cons (pd_var 3) (ad_cons (pd_ix (pd_var 4) pd_int) ad_nil))))
  (pss_d1 (psd_if (td_lt (pd_var 5) pd_int)
  (pss_d1 (psd_app (pv 0) (pd_tup (ad_cons pd_str (ad_cons (pd_add (pd_var 1) (pd_tup (ad_cons (pd_ix (pd_var 4) pd_int) ad_nil))) ad_nil)))))
  (pss_d1 (psd_callO C_gather hr (by omega) (pv 0) (ad_cons (pd_add (pd_var 1) (pd_tup (ad_cons (pd_ix (pd_var 4) pd_int) ad_nil))) (ad_cons (pd_ix (pd_var 4) pd_int) (ad_cons (pd_ix (pd_ix (pd_var 3) (pd_var 5)) pd_int) ad_nil)))))))))
  (pss_d1 (psd_forT rfl PassesOwn.never (pd_var 3) (pg_name (i := 4) sc_gather_members.nd rfl (Or.inl rfl)) (tgt1 rfl)
  (pss_d1 (psd_if (td_lt (pd_call C_named hr (by omega) (ad_cons (pd_var 2) (ad_cons (pd_ix (pd_var 4) pd_int) ad_nil))) pd_int)
  (pss_d1 (psd_app (pv 0) (pd_tup (ad_cons pd_str (ad_cons (pd_add (pd_var 1) (pd_tup (ad_cons (pd_ix (pd_var 4) pd_int) ad_nil))) (ad_cons (pd_ix (pd_var 4) pd_int) ad_nil))))))
  pss_dnil))))))
theorem bd_gather_row {f : Addr} {fd : FuncData} (F : At1 K mg "gather_row" s_gather_row f fd) : Binds K fd ["found", "names", "one", "other"] [] := F.fn.binds (ps := ["found", "names", "one", "other"]) fun _ _ _ _ _ _ us hl => match us, hl with | [_, _, _, _], _ => rfl
theorem ok_gather_row {f : Addr} {fd : FuncData} {l_gather l_figures : Nat} {k : Nat} (M : Free mg) (F : At1 K mg "gather_row" s_gather_row f fd) {FO_gather : List PyData → List PyData → Option (List PyData)} (C_gather : DefOkO P w K mg base l_gather "gather" 3 FO_gather) {F_figures : List PyData → Option PyData} (C_figures : DefOk P w K mg base l_figures "figures" 1 F_figures) (h_gather : l_gather ≤ k) (h_figures : l_figures ≤ k) : DefOkO P w K mg base (k + 1) "gather_row" 3 (runO 5 (b_gather_row FO_gather F_figures)) :=
  def_okO (y := "found") (N := ["names", "one", "other", "shared", "k"]) (ps := ["names", "one", "other"]) (fb := (b_gather_row FO_gather F_figures)) F (bd_gather_row F) sc_gather_row (fun cdv A outer s H E Hi l hr =>
  (pss_d (psd_set (i := 4) sc_gather_row.nd rfl (Or.inl rfl) rfl (pd_min rfl M.min (pd_len M.len (pd_var 2)) (pd_len M.len (pd_var 3))))
  (pss_d (psd_forR rfl PassesOwn.never M.range (pd_var 4) (pg_name (i := 5) sc_gather_row.nd rfl (Or.inl rfl)) (tgt1 rfl)
  (pss_d1 (psd_callO C_gather hr (by omega) (pv 0) (ad_cons (pd_add (pd_var 1) (pd_tup (ad_cons (pd_tupleOf M.tuple (pd_call C_figures hr (by omega) (ad_cons (pd_var 5) ad_nil))) ad_nil))) (ad_cons (pd_ix (pd_var 2) (pd_var 5)) (ad_cons (pd_ix (pd_var 3) (pd_var 5)) ad_nil))))))
  (pss_d (psd_forR rfl PassesOwn.never M.range (pd_sub (pd_len M.len (pd_var 2)) (pd_var 4)) (pg_name (i := 5) sc_gather_row.nd rfl (Or.inl rfl)) (tgt1 rfl)
  (pss_d1 (psd_app (pv 0) (pd_tup (ad_cons pd_str (ad_cons (pd_add (pd_var 1) (pd_tup (ad_cons (pd_tupleOf M.tuple (pd_call C_figures hr (by omega) (ad_cons (pd_sub (pd_sub (pd_len M.len (pd_var 2)) pd_int) (pd_var 5)) ad_nil))) ad_nil))) ad_nil))))))
  (pss_d1 (psd_forR2 rfl PassesOwn.never M.range (pd_var 4) (pd_len M.len (pd_var 3)) (pg_name (i := 5) sc_gather_row.nd rfl (Or.inl rfl)) (tgt1 rfl)
  (pss_d1 (psd_app (pv 0) (pd_tup (ad_cons pd_str (ad_cons (pd_add (pd_var 1) (pd_tup (ad_cons (pd_tupleOf M.tuple (pd_call C_figures hr (by omega) (ad_cons (pd_var 5) ad_nil))) ad_nil))) (ad_cons (pd_ix (pd_var 3) (pd_var 5)) ad_nil))))))))))))
theorem bd_gather {f : Addr} {fd : FuncData} (F : At1 K mg "gather" s_gather f fd) : Binds K fd ["found", "names", "one", "other"] [] := F.fn.binds (ps := ["found", "names", "one", "other"]) fun _ _ _ _ _ _ us hl => match us, hl with | [_, _, _, _], _ => rfl
theorem ok_gather {f : Addr} {fd : FuncData} {l_alike l_gather_members l_gather_row : Nat} {k : Nat} (M : Free mg) (F : At1 K mg "gather" s_gather f fd) {F_alike_ : List PyData → Option PyData} (C_alike : DefOk P w K mg base l_alike "alike" 2 F_alike_) {FO_gather_members : List PyData → List PyData → Option (List PyData)} (C_gather_members : DefOkO P w K mg base l_gather_members "gather_members" 3 FO_gather_members) {FO_gather_row : List PyData → List PyData → Option (List PyData)} (C_gather_row : DefOkO P w K mg base l_gather_row "gather_row" 3 FO_gather_row) (h_alike : l_alike ≤ k) (h_gather_members : l_gather_members ≤ k) (h_gather_row : l_gather_row ≤ k) : DefOkO P w K mg base (k + 1) "gather" 3 (runO 4 (b_gather F_alike_ FO_gather_members FO_gather_row)) :=
  def_okO (y := "found") (N := ["names", "one", "other", "kinds"]) (ps := ["names", "one", "other"]) (fb := (b_gather F_alike_ FO_gather_members FO_gather_row)) F (bd_gather F) sc_gather (fun cdv A outer s H E Hi l hr =>
  (pss_d (psd_if (td_tru (pd_call C_alike hr (by omega) (ad_cons (pd_var 2) (ad_cons (pd_var 3) ad_nil))))
  (pss_d1 (psd_ret pd_non))
  pss_dnil)
  (pss_d (psd_set (i := 4) sc_gather.nd rfl (Or.inl rfl) rfl (pd_tup (ad_cons pd_str (ad_cons pd_str ad_nil))))
  (pss_d (psd_if (PW.pt (wd_and (td_tru (pd_isTup M.isinstance M.tuple (pd_var 2))) (pw_and1 (td_tru (pd_isTup M.isinstance M.tuple (pd_var 3))))))
  (pss_d1 (psd_set (i := 4) sc_gather.nd rfl (Or.inl rfl) rfl (pd_tup (ad_cons (pd_ix (pd_var 2) pd_int) (ad_cons (pd_ix (pd_var 3) pd_int) ad_nil)))))
  pss_dnil)
  (pss_d (psd_if (td_eq (room_eq hr) (pd_var 4) (pd_tup (ad_cons pd_str (ad_cons pd_str ad_nil))))
  (pss_d1 (psd_callO C_gather_members hr (by omega) (pv 0) (ad_cons (pd_var 1) (ad_cons (pd_ix (pd_var 2) pd_int) (ad_cons (pd_ix (pd_var 3) pd_int) ad_nil)))))
  (pss_d1 (psd_if (td_eq (room_eq hr) (pd_var 4) (pd_tup (ad_cons pd_str (ad_cons pd_str ad_nil))))
  (pss_d1 (psd_callO C_gather_row hr (by omega) (pv 0) (ad_cons (pd_var 1) (ad_cons (pd_ix (pd_var 2) pd_int) (ad_cons (pd_ix (pd_var 3) pd_int) ad_nil)))))
  (pss_d1 (psd_app (pv 0) (pd_tup (ad_cons pd_str (ad_cons (pd_var 1) (ad_cons (pd_var 3) ad_nil)))))))))
  (pss_d1 (psd_ret pd_non)))))))
theorem bd_between {f : Addr} {fd : FuncData} (F : At1 K mg "between" s_between f fd) : Binds K fd ["one", "other"] [] := F.fn.binds (ps := ["one", "other"]) fun _ _ _ _ _ _ us hl => match us, hl with | [_, _], _ => rfl
theorem ok_between {f : Addr} {fd : FuncData} {l_gather : Nat} {k : Nat} (M : Free mg) (F : At1 K mg "between" s_between f fd) {FO_gather : List PyData → List PyData → Option (List PyData)} (C_gather : DefOkO P w K mg base l_gather "gather" 3 FO_gather) (h_gather : l_gather ≤ k) : DefOk P w K mg base (k + 1) "between" 2 (runF 3 (b_between FO_gather)) :=
  def_ok (N := ["one", "other", "found"]) (ps := ["one", "other"]) (fb := (b_between FO_gather)) F (bd_between F) sc_between (fun cdv A outer s H E Hi hr =>
  (pss_newL (j := 2) sc_between.nd rfl (Or.inl rfl) ad_nil (fun l =>
  (pss_d (psd_callO C_gather hr (by omega) (pv 2) (ad_cons (pd_tup ad_nil) (ad_cons (pd_var 0) (ad_cons (pd_var 1) ad_nil))))
  (pss_d1 (psd_retO (pv 2)))))))
theorem bd_cell {f : Addr} {fd : FuncData} (F : At1 K mg "_law_cell" s_cell f fd) : Binds K fd ["_law_script", "_law_k"] [] := F.fn.binds (ps := ["_law_script", "_law_k"]) fun _ _ _ _ _ _ us hl => match us, hl with | [_, _], _ => rfl
theorem ok_cell {f : Addr} {fd : FuncData} {k : Nat} (M : Free mg) (F : At1 K mg "_law_cell" s_cell f fd)   : DefOk P w K mg base (k + 1) "_law_cell" 2 (runF 2 b_cell) :=
  def_ok (N := ["_law_script", "_law_k"]) (ps := ["_law_script", "_law_k"]) (fb := b_cell) F (bd_cell F) sc_cell (fun cdv A outer s H E Hi hr =>
  (pss_d (psd_if (td_tru (pd_var 0))
  (pss_d1 (psd_ret (pd_ix (pd_var 0) (pd_mod (pd_var 1) (pd_len M.len (pd_var 0))))))
  pss_dnil)
  (pss_d1 (psd_ret pd_int))))
theorem bd_mix {f : Addr} {fd : FuncData} (F : At1 K mg "_law_mix" s_mix f fd) : Binds K fd ["_law_script", "_law_k"] [] := F.fn.binds (ps := ["_law_script", "_law_k"]) fun _ _ _ _ _ _ us hl => match us, hl with | [_, _], _ => rfl
theorem ok_mix {f : Addr} {fd : FuncData} {l_cell : Nat} {k : Nat} (M : Free mg) (F : At1 K mg "_law_mix" s_mix f fd) {F_cell : List PyData → Option PyData} (C_cell : DefOk P w K mg base l_cell "_law_cell" 2 F_cell) (h_cell : l_cell ≤ k) : DefOk P w K mg base (k + 1) "_law_mix" 2 (runF 3 (b_mix F_cell)) :=
  def_ok (N := ["_law_script", "_law_k", "_law_number"]) (ps := ["_law_script", "_law_k"]) (fb := (b_mix F_cell)) F (bd_mix F) sc_mix (fun cdv A outer s H E Hi hr =>
  (pss_d (psd_set (i := 2) sc_mix.nd rfl (Or.inl rfl) rfl (pd_mod (pd_add (pd_call C_cell hr (by omega) (ad_cons (pd_var 0) (ad_cons (pd_var 1) ad_nil))) (pd_mul pd_int (pd_add (pd_var 1) pd_int))) pd_int))
  (pss_d (psd_set (i := 2) sc_mix.nd rfl (Or.inl rfl) rfl (pd_mod (pd_mul (pd_var 2) pd_int) pd_int))
  (pss_d1 (psd_ret (pd_mod (pd_add (pd_mul (pd_fdiv (pd_var 2) pd_int) pd_int) (pd_var 2)) pd_int))))))
theorem bd_lnamed {f : Addr} {fd : FuncData} (F : At1 K mg "_law_named" s_lnamed f fd) : Binds K fd ["_law_many_here"] [] := F.fn.binds (ps := ["_law_many_here"]) fun _ _ _ _ _ _ us hl => match us, hl with | [_], _ => rfl
theorem ok_lnamed {f : Addr} {fd : FuncData} {k : Nat} (M : Free mg) (F : At1 K mg "_law_named" s_lnamed f fd)   : DefOk P w K mg base (k + 1) "_law_named" 1 (runF 1 b_lnamed) :=
  def_ok (N := ["_law_many_here"]) (ps := ["_law_many_here"]) (fb := b_lnamed) F (bd_lnamed F) sc_lnamed (fun cdv A outer s H E Hi hr =>
  (pss_d (psd_if (td_lt (pd_var 0) pd_int)
  (pss_d1 (psd_ret (pd_ix (pd_lst (ad_cons (pd_tup ad_nil) (ad_cons (pd_tup (ad_cons pd_int ad_nil)) (ad_cons (pd_tup (ad_cons pd_int (ad_cons pd_int ad_nil))) (ad_cons (pd_tup (ad_cons pd_int (ad_cons pd_int ad_nil))) (ad_cons (pd_tup (ad_cons pd_int ad_nil)) (ad_cons (pd_tup (ad_cons pd_int ad_nil)) ad_nil))))))) (pd_var 0))))
  pss_dnil)
  (pss_d1 (psd_ret (pd_tup (ad_cons (pd_add pd_int (pd_var 0)) ad_nil))))))
theorem bd_small_value {f : Addr} {fd : FuncData} (F : At1 K mg "_law_small_value" s_small_value f fd) : Binds K fd ["_law_number"] [] := F.fn.binds (ps := ["_law_number"]) fun _ _ _ _ _ _ us hl => match us, hl with | [_], _ => rfl
theorem ok_small_value {f : Addr} {fd : FuncData} {k : Nat} (M : Free mg) (F : At1 K mg "_law_small_value" s_small_value f fd)   : DefOk P w K mg base (k + 1) "_law_small_value" 1 (runF 3 b_small_value) :=
  def_ok (N := ["_law_number", "_law_kind_here", "_law_rest"]) (ps := ["_law_number"]) (fb := b_small_value) F (bd_small_value F) sc_small_value (fun cdv A outer s H E Hi hr =>
  (pss_d (psd_set (i := 1) sc_small_value.nd rfl (Or.inl rfl) rfl (pd_mod (pd_var 0) pd_int))
  (pss_d (psd_set (i := 2) sc_small_value.nd rfl (Or.inl rfl) rfl (pd_fdiv (pd_var 0) pd_int))
  (pss_d (psd_if (td_lt (pd_var 1) pd_int)
  (pss_d1 (psd_ret (pd_ix (pd_lst (ad_cons pd_non (ad_cons pd_bl (ad_cons pd_bl ad_nil)))) (pd_var 1))))
  pss_dnil)
  (pss_d (psd_if (td_eq (room_eq hr) (pd_var 1) pd_int)
  (pss_d1 (psd_ret (pd_tup (ad_cons pd_str (ad_cons (pd_ix (pd_lst (ad_cons (pd_tup (ad_cons pd_int ad_nil)) (ad_cons (pd_tup (ad_cons pd_int (ad_cons pd_int ad_nil))) (ad_cons (pd_tup ad_nil) (ad_cons (pd_tup (ad_cons pd_int (ad_cons pd_int ad_nil))) ad_nil))))) (pd_mod (pd_var 2) pd_int)) ad_nil)))))
  pss_dnil)
  (pss_d (psd_if (td_eq (room_eq hr) (pd_var 1) pd_int)
  (pss_d1 (psd_ret (pd_tup (ad_cons pd_str (ad_cons (pd_add pd_int (pd_mod (pd_var 2) pd_int)) (ad_cons (pd_sub (pd_mod (pd_fdiv (pd_var 2) pd_int) pd_int) pd_int) ad_nil))))))
  pss_dnil)
  (pss_d1 (psd_ret (pd_ix (pd_lst (ad_cons (pd_tup (ad_cons pd_str (ad_cons pd_int (ad_cons pd_int ad_nil)))) (ad_cons (pd_tup (ad_cons pd_str (ad_cons (pd_sub (pd_mul (pd_neg pd_int) (pd_var 2)) pd_int) (ad_cons pd_int ad_nil)))) ad_nil))) (pd_mod (pd_var 2) pd_int))))))))))
theorem bd_kind {f : Addr} {fd : FuncData} (F : At1 K mg "_law_kind" s_kind f fd) : Binds K fd ["_law_thing"] [] := F.fn.binds (ps := ["_law_thing"]) fun _ _ _ _ _ _ us hl => match us, hl with | [_], _ => rfl
theorem ok_kind {f : Addr} {fd : FuncData} {k : Nat} (M : Free mg) (F : At1 K mg "_law_kind" s_kind f fd)   : DefOk P w K mg base (k + 1) "_law_kind" 1 (runF 1 b_kind) :=
  def_ok (N := ["_law_thing"]) (ps := ["_law_thing"]) (fb := b_kind) F (bd_kind F) sc_kind (fun cdv A outer s H E Hi hr =>
  (pss_d (psd_if (PW.pt (wd_and (td_tru (pd_isTup M.isinstance M.tuple (pd_var 0))) (wd_and (td_eq (room_eq hr) (pd_len M.len (pd_var 0)) pd_int) (pw_and1 (td_in (pd_ix (pd_var 0) pd_int) (pd_tup (ad_cons pd_str (ad_cons pd_str ad_nil))))))))
  (pss_d1 (psd_ret (pd_ix (pd_var 0) pd_int)))
  pss_dnil)
  (pss_d1 (psd_ret pd_str))))
theorem bd_lalike {f : Addr} {fd : FuncData} (F : At1 K mg "_law_alike" s_lalike f fd) : Binds K fd ["_law_one", "_law_other"] [] := F.fn.binds (ps := ["_law_one", "_law_other"]) fun _ _ _ _ _ _ us hl => match us, hl with | [_, _], _ => rfl
theorem ok_lalike {f : Addr} {fd : FuncData} {l_kind l_lalike : Nat} {k : Nat} (M : Free mg) (F : At1 K mg "_law_alike" s_lalike f fd) {F_kind : List PyData → Option PyData} (C_kind : DefOk P w K mg base l_kind "_law_kind" 1 F_kind) {F_lalike_ : List PyData → Option PyData} (C_lalike : DefOk P w K mg base l_lalike "_law_alike" 2 F_lalike_) (h_kind : l_kind ≤ k) (h_lalike : l_lalike ≤ k) : DefOk P w K mg base (k + 1) "_law_alike" 2 (runF 6 (b_lalike F_kind F_lalike_)) :=
  def_ok (N := ["_law_one", "_law_other", "_law_kind_here", "_law_k", "_law_same", "_law_pair"]) (ps := ["_law_one", "_law_other"]) (fb := (b_lalike F_kind F_lalike_)) F (bd_lalike F) sc_lalike (fun cdv A outer s H E Hi hr =>
  (pss_d (psd_set (i := 2) sc_lalike.nd rfl (Or.inl rfl) rfl (pd_call C_kind hr (by omega) (ad_cons (pd_var 0) ad_nil)))
  (pss_d (psd_if (PW.pt (wd_or (td_eq (room_eq hr) (pd_var 2) pd_str) (pw_or1 (td_ne (room_eq hr) (pd_var 2) (pd_call C_kind hr (by omega) (ad_cons (pd_var 1) ad_nil))))))
  (pss_d1 (psd_ret (pd_and (pd_eq (room_eq hr) (pd_var 0) (pd_var 1)) (pe_one (pd_eq (room_eq hr) (pd_isTup M.isinstance M.tuple (pd_var 0)) (pd_isTup M.isinstance M.tuple (pd_var 1)))))))
  pss_dnil)
  (pss_d (psd_if (td_ne (room_eq hr) (pd_len M.len (pd_ix (pd_var 0) pd_int)) (pd_len M.len (pd_ix (pd_var 1) pd_int)))
  (pss_d1 (psd_ret pd_bl))
  pss_dnil)
  (pss_d (psd_forR rfl PassesOwn.never M.range (pd_len M.len (pd_ix (pd_var 0) pd_int)) (pg_name (i := 3) sc_lalike.nd rfl (Or.inr rfl)) (tgt1 rfl)
  (pss_d1 (psd_if (td_eq (room_eq hr) (pd_var 2) pd_str)
  (pss_d1 (psd_if (td_not (td_tru (pd_call C_lalike hr (by omega) (ad_cons (pd_ix (pd_ix (pd_var 0) pd_int) (pd_var 3)) (ad_cons (pd_ix (pd_ix (pd_var 1) pd_int) (pd_var 3)) ad_nil)))))
  (pss_d1 (psd_ret pd_bl))
  pss_dnil))
  (pss_d (psd_setLcT (j := 4) rfl sc_lalike.nd rfl rfl rfl (sw_true rfl rfl rfl (by decide +kernel)) (pd_ix (pd_var 1) pd_int) (blkOk_by (own := [("_law_pair", 5)]) (N := ["_law_one", "_law_other", "_law_kind_here", "_law_k", "_law_same", "_law_pair"]) (sc := defScope s_lalike) (by decide +kernel)) rfl (fun _ _ _ _ _ => pg_name (i := 5) sc_lalike.nd rfl (Or.inl rfl)) (fun _ _ _ _ _ => (pts_d1 (td_eq (room_eq hr) (pd_ix (pd_var 5) pd_int) (pd_ix (pd_ix (pd_ix (pd_var 0) pd_int) (pd_var 3)) pd_int)))) (fun _ _ _ _ _ => (pd_var 5)))
  (pss_d1 (psd_if (PW.pt (wd_or (td_ne (room_eq hr) (pd_len M.len (pd_var 4)) pd_int) (pw_or1 (td_not (td_tru (pd_call C_lalike hr (by omega) (ad_cons (pd_ix (pd_ix (pd_ix (pd_var 0) pd_int) (pd_var 3)) pd_int) (ad_cons (pd_ix (pd_ix (pd_var 4) pd_int) pd_int) ad_nil))))))))
  (pss_d1 (psd_ret pd_bl))
  pss_dnil))))))
  (pss_d1 (psd_ret pd_bl)))))))
theorem bd_turned {f : Addr} {fd : FuncData} (F : At1 K mg "_law_turned" s_turned f fd) : Binds K fd ["_law_thing", "_law_number"] [] := F.fn.binds (ps := ["_law_thing", "_law_number"]) fun _ _ _ _ _ _ us hl => match us, hl with | [_, _], _ => rfl
theorem ok_turned {f : Addr} {fd : FuncData} {l_kind l_turned : Nat} {k : Nat} (M : Free mg) (F : At1 K mg "_law_turned" s_turned f fd) {F_kind : List PyData → Option PyData} (C_kind : DefOk P w K mg base l_kind "_law_kind" 1 F_kind) {F_turned_ : List PyData → Option PyData} (C_turned : DefOk P w K mg base l_turned "_law_turned" 2 F_turned_) (h_kind : l_kind ≤ k) (h_turned : l_turned ≤ k) : DefOk P w K mg base (k + 1) "_law_turned" 2 (runF 7 (b_turned F_kind F_turned_)) :=
  def_ok (N := ["_law_thing", "_law_number", "_law_kind_here", "_law_part", "_law_at", "_law_pairs", "_law_pair"]) (ps := ["_law_thing", "_law_number"]) (fb := (b_turned F_kind F_turned_)) F (bd_turned F) sc_turned (fun cdv A outer s H E Hi hr =>
  (pss_d (psd_set (i := 2) sc_turned.nd rfl (Or.inl rfl) rfl (pd_call C_kind hr (by omega) (ad_cons (pd_var 0) ad_nil)))
  (pss_d (psd_if (td_eq (room_eq hr) (pd_var 2) pd_str)
  (pss_d1 (psd_ret (pd_var 0)))
  pss_dnil)
  (pss_d (psd_if (td_eq (room_eq hr) (pd_var 2) pd_str)
  (pss_d1 (psd_ret (pd_tup (ad_cons pd_str (ad_cons (pd_tupleOf M.tuple (pd_lcT rfl sc_turned.nd (pd_ix (pd_var 0) pd_int) (blkOk_by (own := [("_law_part", 3)]) (N := ["_law_thing", "_law_number", "_law_kind_here", "_law_part", "_law_at", "_law_pairs", "_law_pair"]) (sc := defScope s_turned) (by decide +kernel)) rfl (fun _ _ _ _ _ => pg_name (i := 3) sc_turned.nd rfl (Or.inl rfl)) (fun _ _ _ _ _ => pts_d0) (fun _ _ _ _ _ => (pd_call C_turned hr (by omega) (ad_cons (pd_var 3) (ad_cons (pd_fdiv (pd_var 1) pd_int) ad_nil)))))) ad_nil)))))
  pss_dnil)
  (pss_d (psd_set (i := 4) sc_turned.nd rfl (Or.inl rfl) rfl (pd_mod (pd_var 1) (pd_add (pd_len M.len (pd_ix (pd_var 0) pd_int)) pd_int)))
  (pss_d (psd_set (i := 5) sc_turned.nd rfl (Or.inl rfl) rfl (pd_add (pd_sl (pd_ix (pd_var 0) pd_int) (od_some (pd_var 4)) od_none) (pd_sl (pd_ix (pd_var 0) pd_int) od_none (od_some (pd_var 4)))))
  (pss_d1 (psd_ret (pd_tup (ad_cons pd_str (ad_cons (pd_tupleOf M.tuple (pd_lcT rfl sc_turned.nd (pd_var 5) (blkOk_by (own := [("_law_pair", 6)]) (N := ["_law_thing", "_law_number", "_law_kind_here", "_law_part", "_law_at", "_law_pairs", "_law_pair"]) (sc := defScope s_turned) (by decide +kernel)) rfl (fun _ _ _ _ _ => pg_name (i := 6) sc_turned.nd rfl (Or.inl rfl)) (fun _ _ _ _ _ => pts_d0) (fun _ _ _ _ _ => (pd_tup (ad_cons (pd_ix (pd_var 6) pd_int) (ad_cons (pd_call C_turned hr (by omega) (ad_cons (pd_ix (pd_var 6) pd_int) (ad_cons (pd_fdiv (pd_var 1) pd_int) ad_nil))) ad_nil)))))) ad_nil)))))))))))
theorem bd_ways {f : Addr} {fd : FuncData} (F : At1 K mg "_law_ways" s_ways f fd) : Binds K fd ["_law_thing"] [] := F.fn.binds (ps := ["_law_thing"]) fun _ _ _ _ _ _ us hl => match us, hl with | [_], _ => rfl
theorem ok_ways {f : Addr} {fd : FuncData} {k : Nat} (M : Free mg) (F : At1 K mg "_law_ways" s_ways f fd)   : DefOk P w K mg base (k + 1) "_law_ways" 1 (runF 9 b_ways) :=
  def_ok (N := ["_law_thing", "_law_found", "_law_at", "_law_names", "_law_here", "_law_kind_here", "_law_k", "_law_sign", "_law_pair"]) (ps := ["_law_thing"]) (fb := b_ways) F (bd_ways F) sc_ways (fun cdv A outer s H E Hi hr =>
  (pss_newL (j := 1) sc_ways.nd rfl (Or.inl rfl) (ad_cons (pd_tup (ad_cons (pd_tup ad_nil) (ad_cons (pd_var 0) ad_nil))) ad_nil) (fun l =>
  (pss_d (psd_set (i := 2) sc_ways.nd rfl (Or.inl rfl) rfl pd_int)
  (pss_d (psd_while 100000 PassesOwn.never (td_lt (pd_var 2) (pd_ownLen M.len (pv 1)))
  (pss_d (psd_set (i := 3) sc_ways.nd rfl (Or.inl rfl) rfl (pd_ix (pd_ownIx (pv 1) (pd_var 2)) pd_int))
  (pss_d (psd_set (i := 4) sc_ways.nd rfl (Or.inl rfl) rfl (pd_ix (pd_ownIx (pv 1) (pd_var 2)) pd_int))
  (pss_d (psd_set (i := 5) sc_ways.nd rfl (Or.inl rfl) rfl pd_str)
  (pss_d (psd_if (td_tru (pd_isTup M.isinstance M.tuple (pd_var 4)))
  (pss_d1 (psd_set (i := 5) sc_ways.nd rfl (Or.inl rfl) rfl (pd_ix (pd_var 4) pd_int)))
  pss_dnil)
  (pss_d (psd_if (td_eq (room_eq hr) (pd_var 5) pd_str)
  (pss_d1 (psd_forR rfl PassesOwn.never M.range (pd_len M.len (pd_ix (pd_var 4) pd_int)) (pg_name (i := 6) sc_ways.nd rfl (Or.inl rfl)) (tgt1 rfl)
  (pss_d1 (psd_app (pv 1) (pd_tup (ad_cons (pd_add (pd_var 3) (pd_tup (ad_cons (pd_tupleOf M.tuple (pd_codes (i := 7) (nm := "_law_sign") rfl sc_ways.nd (pd_var 6) (blkOk_by (own := [("_law_sign", 7)]) (N := ["_law_thing", "_law_found", "_law_at", "_law_names", "_law_here", "_law_kind_here", "_law_k", "_law_sign", "_law_pair"]) (sc := defScope s_ways) (by decide +kernel)) M.str M.ord rfl (Or.inl rfl) (hgn := fun _ _ _ _ _ => pg_name (i := 7) sc_ways.nd rfl (Or.inl rfl)) (hv := fun _ _ _ _ _ => pv 7))) ad_nil))) (ad_cons (pd_ix (pd_ix (pd_var 4) pd_int) (pd_var 6)) ad_nil)))))))
  pss_dnil)
  (pss_d (psd_if (td_eq (room_eq hr) (pd_var 5) pd_str)
  (pss_d1 (psd_forT rfl PassesOwn.never (pd_ix (pd_var 4) pd_int) (pg_name (i := 8) sc_ways.nd rfl (Or.inl rfl)) (tgt1 rfl)
  (pss_d1 (psd_app (pv 1) (pd_tup (ad_cons (pd_add (pd_var 3) (pd_tup (ad_cons (pd_ix (pd_var 8) pd_int) ad_nil))) (ad_cons (pd_ix (pd_var 8) pd_int) ad_nil)))))))
  pss_dnil)
  (pss_d1 (psd_set (i := 2) sc_ways.nd rfl (Or.inl rfl) rfl (pd_add (pd_var 2) pd_int))))))))))
  (pss_d1 (psd_retO (pv 1))))))))
theorem bd_place {f : Addr} {fd : FuncData} (F : At1 K mg "_law_place" s_place f fd) : Binds K fd ["_law_name"] [] := F.fn.binds (ps := ["_law_name"]) fun _ _ _ _ _ _ us hl => match us, hl with | [_], _ => rfl
theorem ok_place {f : Addr} {fd : FuncData} {k : Nat} (M : Free mg) (F : At1 K mg "_law_place" s_place f fd)   : DefOk P w K mg base (k + 1) "_law_place" 1 (runF 3 b_place) :=
  def_ok (N := ["_law_name", "_law_number", "_law_point"]) (ps := ["_law_name"]) (fb := b_place) F (bd_place F) sc_place (fun cdv A outer s H E Hi hr =>
  (pss_d (psd_if (PW.pt (wd_or (td_not (td_tru (pd_var 0))) (pw_or1 (PW.pt (wd_and (td_gt (pd_len M.len (pd_var 0)) pd_int) (pw_and1 (td_eq (room_eq hr) (pd_ix (pd_var 0) pd_int) pd_int)))))))
  (pss_d1 (psd_ret (pd_neg pd_int)))
  pss_dnil)
  (pss_d (psd_set (i := 1) sc_place.nd rfl (Or.inl rfl) rfl pd_int)
  (pss_d (psd_forT rfl PassesOwn.never (pd_var 0) (pg_name (i := 2) sc_place.nd rfl (Or.inl rfl)) (tgt1 rfl)
  (pss_d (psd_if (td_not (td_chainLe pd_int (pd_var 2) pd_int))
  (pss_d1 (psd_ret (pd_neg pd_int)))
  pss_dnil)
  (pss_d1 (psd_set (i := 1) sc_place.nd rfl (Or.inl rfl) rfl (pd_sub (pd_add (pd_mul (pd_var 1) pd_int) (pd_var 2)) pd_int)))))
  (pss_d1 (psd_ret (pd_var 1)))))))
theorem bd_index {f : Addr} {fd : FuncData} (F : At1 K mg "_law_index" s_index f fd) : Binds K fd ["_law_thing", "_law_name"] [] := F.fn.binds (ps := ["_law_thing", "_law_name"]) fun _ _ _ _ _ _ us hl => match us, hl with | [_, _], _ => rfl
theorem ok_index {f : Addr} {fd : FuncData} {l_place : Nat} {k : Nat} (M : Free mg) (F : At1 K mg "_law_index" s_index f fd) {F_place : List PyData → Option PyData} (C_place : DefOk P w K mg base l_place "_law_place" 1 F_place) (h_place : l_place ≤ k) : DefOk P w K mg base (k + 1) "_law_index" 2 (runF 4 (b_index F_place)) :=
  def_ok (N := ["_law_thing", "_law_name", "_law_kind_here", "_law_at"]) (ps := ["_law_thing", "_law_name"]) (fb := (b_index F_place)) F (bd_index F) sc_index (fun cdv A outer s H E Hi hr =>
  (pss_d (psd_set (i := 2) sc_index.nd rfl (Or.inl rfl) rfl pd_str)
  (pss_d (psd_if (td_tru (pd_isTup M.isinstance M.tuple (pd_var 0)))
  (pss_d1 (psd_set (i := 2) sc_index.nd rfl (Or.inl rfl) rfl (pd_ix (pd_var 0) pd_int)))
  pss_dnil)
  (pss_d (psd_if (td_eq (room_eq hr) (pd_var 2) pd_str)
  (pss_d1 (psd_forR rfl PassesOwn.never M.range (pd_len M.len (pd_ix (pd_var 0) pd_int)) (pg_name (i := 3) sc_index.nd rfl (Or.inl rfl)) (tgt1 rfl)
  (pss_d1 (psd_if (td_eq (room_eq hr) (pd_ix (pd_ix (pd_ix (pd_var 0) pd_int) (pd_var 3)) pd_int) (pd_var 1))
  (pss_d1 (psd_ret (pd_var 3)))
  pss_dnil))))
  pss_dnil)
  (pss_d (psd_if (PW.pt (wd_and (td_eq (room_eq hr) (pd_var 2) pd_str) (pw_and1 (td_lt (pd_call C_place hr (by omega) (ad_cons (pd_var 1) ad_nil)) (pd_len M.len (pd_ix (pd_var 0) pd_int))))))
  (pss_d1 (psd_ret (pd_call C_place hr (by omega) (ad_cons (pd_var 1) ad_nil))))
  pss_dnil)
  (pss_d1 (psd_ret (pd_neg pd_int))))))))
theorem bd_get {f : Addr} {fd : FuncData} (F : At1 K mg "_law_get" s_get f fd) : Binds K fd ["_law_thing", "_law_names"] [] := F.fn.binds (ps := ["_law_thing", "_law_names"]) fun _ _ _ _ _ _ us hl => match us, hl with | [_, _], _ => rfl
theorem ok_get {f : Addr} {fd : FuncData} {l_index : Nat} {k : Nat} (M : Free mg) (F : At1 K mg "_law_get" s_get f fd) {F_index : List PyData → Option PyData} (C_index : DefOk P w K mg base l_index "_law_index" 2 F_index) (h_index : l_index ≤ k) : DefOk P w K mg base (k + 1) "_law_get" 2 (runF 4 (b_get F_index)) :=
  def_ok (N := ["_law_thing", "_law_names", "_law_name", "_law_at"]) (ps := ["_law_thing", "_law_names"]) (fb := (b_get F_index)) F (bd_get F) sc_get (fun cdv A outer s H E Hi hr =>
  (pss_d (psd_forT rfl PassesOwn.never (pd_var 1) (pg_name (i := 2) sc_get.nd rfl (Or.inl rfl)) (tgt1 rfl)
  (pss_d (psd_set (i := 3) sc_get.nd rfl (Or.inl rfl) rfl (pd_call C_index hr (by omega) (ad_cons (pd_var 0) (ad_cons (pd_var 2) ad_nil))))
  (pss_d (psd_if (td_lt (pd_var 3) pd_int)
  (pss_d1 (psd_ret (pd_lst ad_nil)))
  pss_dnil)
  (pss_d1 (psd_set (i := 0) sc_get.nd rfl (Or.inl rfl) rfl (pd_ifE (td_eq (room_eq hr) (pd_ix (pd_var 0) pd_int) pd_str) (pd_ix (pd_ix (pd_var 0) pd_int) (pd_var 3)) (pd_ix (pd_ix (pd_ix (pd_var 0) pd_int) (pd_var 3)) pd_int)))))))
  (pss_d1 (psd_ret (pd_lst (ad_cons (pd_var 0) ad_nil))))))
theorem bd_with {f : Addr} {fd : FuncData} (F : At1 K mg "_law_with" s_with f fd) : Binds K fd ["_law_thing", "_law_name", "_law_new"] [] := F.fn.binds (ps := ["_law_thing", "_law_name", "_law_new"]) fun _ _ _ _ _ _ us hl => match us, hl with | [_, _, _], _ => rfl
theorem ok_with {f : Addr} {fd : FuncData} {l_index : Nat} {k : Nat} (M : Free mg) (F : At1 K mg "_law_with" s_with f fd) {F_index : List PyData → Option PyData} (C_index : DefOk P w K mg base l_index "_law_index" 2 F_index) (h_index : l_index ≤ k) : DefOk P w K mg base (k + 1) "_law_with" 3 (runF 5 (b_with F_index)) :=
  def_ok (N := ["_law_thing", "_law_name", "_law_new", "_law_at", "_law_part"]) (ps := ["_law_thing", "_law_name", "_law_new"]) (fb := (b_with F_index)) F (bd_with F) sc_with (fun cdv A outer s H E Hi hr =>
  (pss_d (psd_set (i := 3) sc_with.nd rfl (Or.inl rfl) rfl (pd_call C_index hr (by omega) (ad_cons (pd_var 0) (ad_cons (pd_var 1) ad_nil))))
  (pss_d (psd_set (i := 4) sc_with.nd rfl (Or.inl rfl) rfl (pd_ifE (td_eq (room_eq hr) (pd_ix (pd_var 0) pd_int) pd_str) (pd_var 2) (pd_tup (ad_cons (pd_var 1) (ad_cons (pd_var 2) ad_nil)))))
  (pss_d1 (psd_ret (pd_tup (ad_cons (pd_ix (pd_var 0) pd_int) (ad_cons (pd_add (pd_add (pd_sl (pd_ix (pd_var 0) pd_int) od_none (od_some (pd_var 3))) (pd_tup (ad_cons (pd_var 4) ad_nil))) (pd_sl (pd_ix (pd_var 0) pd_int) (od_some (pd_add (pd_var 3) pd_int)) od_none)) ad_nil))))))))
theorem bd_grown {f : Addr} {fd : FuncData} (F : At1 K mg "_law_grown" s_grown f fd) : Binds K fd ["_law_thing", "_law_names", "_law_new"] [] := F.fn.binds (ps := ["_law_thing", "_law_names", "_law_new"]) fun _ _ _ _ _ _ us hl => match us, hl with | [_, _, _], _ => rfl
theorem ok_grown {f : Addr} {fd : FuncData} {l_index l_grown l_get l_with l_place : Nat} {k : Nat} (M : Free mg) (F : At1 K mg "_law_grown" s_grown f fd) {F_index : List PyData → Option PyData} (C_index : DefOk P w K mg base l_index "_law_index" 2 F_index) {F_grown_ : List PyData → Option PyData} (C_grown : DefOk P w K mg base l_grown "_law_grown" 3 F_grown_) {F_get : List PyData → Option PyData} (C_get : DefOk P w K mg base l_get "_law_get" 2 F_get) {F_with : List PyData → Option PyData} (C_with : DefOk P w K mg base l_with "_law_with" 3 F_with) {F_place : List PyData → Option PyData} (C_place : DefOk P w K mg base l_place "_law_place" 1 F_place) (h_index : l_index ≤ k) (h_grown : l_grown ≤ k) (h_get : l_get ≤ k) (h_with : l_with ≤ k) (h_place : l_place ≤ k) : DefOk P w K mg base (k + 1) "_law_grown" 3 (runF 6 (b_grown F_index F_grown_ F_get F_with F_place)) :=
  def_ok (N := ["_law_thing", "_law_names", "_law_new", "_law_kind_here", "_law_at", "_law_inside"]) (ps := ["_law_thing", "_law_names", "_law_new"]) (fb := (b_grown F_index F_grown_ F_get F_with F_place)) F (bd_grown F) sc_grown (fun cdv A outer s H E Hi hr =>
  (pss_d (psd_if (td_not (td_tru (pd_var 1)))
  (pss_d1 (psd_ret (pd_lst (ad_cons (pd_var 2) ad_nil))))
  pss_dnil)
  (pss_d (psd_set (i := 3) sc_grown.nd rfl (Or.inl rfl) rfl pd_str)
  (pss_d (psd_if (td_tru (pd_isTup M.isinstance M.tuple (pd_var 0)))
  (pss_d1 (psd_set (i := 3) sc_grown.nd rfl (Or.inl rfl) rfl (pd_ix (pd_var 0) pd_int)))
  pss_dnil)
  (pss_d (psd_set (i := 4) sc_grown.nd rfl (Or.inl rfl) rfl (pd_call C_index hr (by omega) (ad_cons (pd_var 0) (ad_cons (pd_ix (pd_var 1) pd_int) ad_nil))))
  (pss_d (psd_if (td_gt (pd_len M.len (pd_var 1)) pd_int)
  (pss_d (psd_if (td_lt (pd_var 4) pd_int)
  (pss_d1 (psd_ret (pd_lst ad_nil)))
  pss_dnil)
  (pss_d (psd_set (i := 5) sc_grown.nd rfl (Or.inl rfl) rfl (pd_call C_grown hr (by omega) (ad_cons (pd_ix (pd_call C_get hr (by omega) (ad_cons (pd_var 0) (ad_cons (pd_sl (pd_var 1) od_none (od_some pd_int)) ad_nil))) pd_int) (ad_cons (pd_sl (pd_var 1) (od_some pd_int) od_none) (ad_cons (pd_var 2) ad_nil)))))
  (pss_d1 (psd_ret (pd_ifE (td_tru (pd_var 5)) (pd_lst (ad_cons (pd_call C_with hr (by omega) (ad_cons (pd_var 0) (ad_cons (pd_ix (pd_var 1) pd_int) (ad_cons (pd_ix (pd_var 5) pd_int) ad_nil)))) ad_nil)) (pd_lst ad_nil))))))
  pss_dnil)
  (pss_d (psd_if (td_eq (room_eq hr) (pd_var 3) pd_str)
  (pss_d (psd_if (td_ge (pd_var 4) pd_int)
  (pss_d1 (psd_ret (pd_lst (ad_cons (pd_call C_with hr (by omega) (ad_cons (pd_var 0) (ad_cons (pd_ix (pd_var 1) pd_int) (ad_cons (pd_var 2) ad_nil)))) ad_nil))))
  pss_dnil)
  (pss_d1 (psd_ret (pd_lst (ad_cons (pd_tup (ad_cons pd_str (ad_cons (pd_add (pd_ix (pd_var 0) pd_int) (pd_tup (ad_cons (pd_tup (ad_cons (pd_ix (pd_var 1) pd_int) (ad_cons (pd_var 2) ad_nil))) ad_nil))) ad_nil))) ad_nil)))))
  pss_dnil)
  (pss_d (psd_if (td_ne (room_eq hr) (pd_var 3) pd_str)
  (pss_d1 (psd_ret (pd_lst ad_nil)))
  pss_dnil)
  (pss_d (psd_set (i := 4) sc_grown.nd rfl (Or.inl rfl) rfl (pd_ifE (td_eq (room_eq hr) (pd_ix (pd_var 1) pd_int) (pd_tup (ad_cons pd_int ad_nil))) (pd_len M.len (pd_ix (pd_var 0) pd_int)) (pd_call C_place hr (by omega) (ad_cons (pd_ix (pd_var 1) pd_int) ad_nil))))
  (pss_d (psd_if (td_not (td_chainLe pd_int (pd_var 4) (pd_len M.len (pd_ix (pd_var 0) pd_int))))
  (pss_d1 (psd_ret (pd_lst ad_nil)))
  pss_dnil)
  (pss_d1 (psd_ret (pd_lst (ad_cons (pd_tup (ad_cons pd_str (ad_cons (pd_add (pd_add (pd_sl (pd_ix (pd_var 0) pd_int) od_none (od_some (pd_var 4))) (pd_tup (ad_cons (pd_var 2) ad_nil))) (pd_sl (pd_ix (pd_var 0) pd_int) (od_some (pd_var 4)) od_none)) ad_nil))) ad_nil))))))))))))))
theorem bd_without {f : Addr} {fd : FuncData} (F : At1 K mg "_law_without" s_without f fd) : Binds K fd ["_law_thing", "_law_names"] [] := F.fn.binds (ps := ["_law_thing", "_law_names"]) fun _ _ _ _ _ _ us hl => match us, hl with | [_, _], _ => rfl
theorem ok_without {f : Addr} {fd : FuncData} {l_get l_index l_without l_with : Nat} {k : Nat} (M : Free mg) (F : At1 K mg "_law_without" s_without f fd) {F_get : List PyData → Option PyData} (C_get : DefOk P w K mg base l_get "_law_get" 2 F_get) {F_index : List PyData → Option PyData} (C_index : DefOk P w K mg base l_index "_law_index" 2 F_index) {F_without_ : List PyData → Option PyData} (C_without : DefOk P w K mg base l_without "_law_without" 2 F_without_) {F_with : List PyData → Option PyData} (C_with : DefOk P w K mg base l_with "_law_with" 3 F_with) (h_get : l_get ≤ k) (h_index : l_index ≤ k) (h_without : l_without ≤ k) (h_with : l_with ≤ k) : DefOk P w K mg base (k + 1) "_law_without" 2 (runF 4 (b_without F_get F_index F_without_ F_with)) :=
  def_ok (N := ["_law_thing", "_law_names", "_law_at", "_law_inside"]) (ps := ["_law_thing", "_law_names"]) (fb := (b_without F_get F_index F_without_ F_with)) F (bd_without F) sc_without (fun cdv A outer s H E Hi hr =>
  (pss_d (psd_if (PW.pt (wd_or (td_not (td_tru (pd_var 1))) (pw_or1 (td_not (td_tru (pd_call C_get hr (by omega) (ad_cons (pd_var 0) (ad_cons (pd_var 1) ad_nil))))))))
  (pss_d1 (psd_ret (pd_lst ad_nil)))
  pss_dnil)
  (pss_d (psd_if (td_eq (room_eq hr) (pd_len M.len (pd_var 1)) pd_int)
  (pss_d (psd_set (i := 2) sc_without.nd rfl (Or.inl rfl) rfl (pd_call C_index hr (by omega) (ad_cons (pd_var 0) (ad_cons (pd_ix (pd_var 1) pd_int) ad_nil))))
  (pss_d1 (psd_ret (pd_lst (ad_cons (pd_tup (ad_cons (pd_ix (pd_var 0) pd_int) (ad_cons (pd_add (pd_sl (pd_ix (pd_var 0) pd_int) od_none (od_some (pd_var 2))) (pd_sl (pd_ix (pd_var 0) pd_int) (od_some (pd_add (pd_var 2) pd_int)) od_none)) ad_nil))) ad_nil)))))
  pss_dnil)
  (pss_d (psd_set (i := 3) sc_without.nd rfl (Or.inl rfl) rfl (pd_call C_without hr (by omega) (ad_cons (pd_ix (pd_call C_get hr (by omega) (ad_cons (pd_var 0) (ad_cons (pd_sl (pd_var 1) od_none (od_some pd_int)) ad_nil))) pd_int) (ad_cons (pd_sl (pd_var 1) (od_some pd_int) od_none) ad_nil))))
  (pss_d1 (psd_ret (pd_lst (ad_cons (pd_call C_with hr (by omega) (ad_cons (pd_var 0) (ad_cons (pd_ix (pd_var 1) pd_int) (ad_cons (pd_ix (pd_var 3) pd_int) ad_nil)))) ad_nil))))))))
theorem bd_replaced {f : Addr} {fd : FuncData} (F : At1 K mg "_law_replaced" s_replaced f fd) : Binds K fd ["_law_thing", "_law_names", "_law_new"] [] := F.fn.binds (ps := ["_law_thing", "_law_names", "_law_new"]) fun _ _ _ _ _ _ us hl => match us, hl with | [_, _, _], _ => rfl
theorem ok_replaced {f : Addr} {fd : FuncData} {l_get l_replaced l_with : Nat} {k : Nat} (M : Free mg) (F : At1 K mg "_law_replaced" s_replaced f fd) {F_get : List PyData → Option PyData} (C_get : DefOk P w K mg base l_get "_law_get" 2 F_get) {F_replaced_ : List PyData → Option PyData} (C_replaced : DefOk P w K mg base l_replaced "_law_replaced" 3 F_replaced_) {F_with : List PyData → Option PyData} (C_with : DefOk P w K mg base l_with "_law_with" 3 F_with) (h_get : l_get ≤ k) (h_replaced : l_replaced ≤ k) (h_with : l_with ≤ k) : DefOk P w K mg base (k + 1) "_law_replaced" 3 (runF 4 (b_replaced F_get F_replaced_ F_with)) :=
  def_ok (N := ["_law_thing", "_law_names", "_law_new", "_law_inside"]) (ps := ["_law_thing", "_law_names", "_law_new"]) (fb := (b_replaced F_get F_replaced_ F_with)) F (bd_replaced F) sc_replaced (fun cdv A outer s H E Hi hr =>
  (pss_d (psd_if (td_not (td_tru (pd_call C_get hr (by omega) (ad_cons (pd_var 0) (ad_cons (pd_var 1) ad_nil)))))
  (pss_d1 (psd_ret (pd_lst ad_nil)))
  pss_dnil)
  (pss_d (psd_if (td_not (td_tru (pd_var 1)))
  (pss_d1 (psd_ret (pd_lst (ad_cons (pd_var 2) ad_nil))))
  pss_dnil)
  (pss_d (psd_set (i := 3) sc_replaced.nd rfl (Or.inl rfl) rfl (pd_call C_replaced hr (by omega) (ad_cons (pd_ix (pd_call C_get hr (by omega) (ad_cons (pd_var 0) (ad_cons (pd_sl (pd_var 1) od_none (od_some pd_int)) ad_nil))) pd_int) (ad_cons (pd_sl (pd_var 1) (od_some pd_int) od_none) (ad_cons (pd_var 2) ad_nil)))))
  (pss_d1 (psd_ret (pd_lst (ad_cons (pd_call C_with hr (by omega) (ad_cons (pd_var 0) (ad_cons (pd_ix (pd_var 1) pd_int) (ad_cons (pd_ix (pd_var 3) pd_int) ad_nil)))) ad_nil))))))))
theorem bd_done {f : Addr} {fd : FuncData} (F : At1 K mg "_law_done" s_done f fd) : Binds K fd ["_law_thing", "_law_deed_here"] [] := F.fn.binds (ps := ["_law_thing", "_law_deed_here"]) fun _ _ _ _ _ _ us hl => match us, hl with | [_, _], _ => rfl
theorem ok_done {f : Addr} {fd : FuncData} {l_grown l_without l_replaced l_get l_lalike : Nat} {k : Nat} (M : Free mg) (F : At1 K mg "_law_done" s_done f fd) {F_grown_ : List PyData → Option PyData} (C_grown : DefOk P w K mg base l_grown "_law_grown" 3 F_grown_) {F_without_ : List PyData → Option PyData} (C_without : DefOk P w K mg base l_without "_law_without" 2 F_without_) {F_replaced_ : List PyData → Option PyData} (C_replaced : DefOk P w K mg base l_replaced "_law_replaced" 3 F_replaced_) {F_get : List PyData → Option PyData} (C_get : DefOk P w K mg base l_get "_law_get" 2 F_get) {F_lalike_ : List PyData → Option PyData} (C_lalike : DefOk P w K mg base l_lalike "_law_alike" 2 F_lalike_) (h_grown : l_grown ≤ k) (h_without : l_without ≤ k) (h_replaced : l_replaced ≤ k) (h_get : l_get ≤ k) (h_lalike : l_lalike ≤ k) : DefOk P w K mg base (k + 1) "_law_done" 2 (runF 4 (b_done F_grown_ F_without_ F_replaced_ F_get F_lalike_)) :=
  def_ok (N := ["_law_thing", "_law_deed_here", "_law_here", "_law_left"]) (ps := ["_law_thing", "_law_deed_here"]) (fb := (b_done F_grown_ F_without_ F_replaced_ F_get F_lalike_)) F (bd_done F) sc_done (fun cdv A outer s H E Hi hr =>
  (pss_d (psd_if (td_eq (room_eq hr) (pd_ix (pd_var 1) pd_int) pd_str)
  (pss_d1 (psd_ret (pd_call C_grown hr (by omega) (ad_cons (pd_var 0) (ad_cons (pd_ix (pd_var 1) pd_int) (ad_cons (pd_ix (pd_var 1) pd_int) ad_nil))))))
  pss_dnil)
  (pss_d (psd_if (td_eq (room_eq hr) (pd_ix (pd_var 1) pd_int) pd_str)
  (pss_d1 (psd_ret (pd_call C_without hr (by omega) (ad_cons (pd_var 0) (ad_cons (pd_ix (pd_var 1) pd_int) ad_nil)))))
  pss_dnil)
  (pss_d (psd_if (td_eq (room_eq hr) (pd_ix (pd_var 1) pd_int) pd_str)
  (pss_d1 (psd_ret (pd_call C_replaced hr (by omega) (ad_cons (pd_var 0) (ad_cons (pd_ix (pd_var 1) pd_int) (ad_cons (pd_ix (pd_var 1) pd_int) ad_nil))))))
  pss_dnil)
  (pss_d (psd_set (i := 2) sc_done.nd rfl (Or.inl rfl) rfl (pd_call C_get hr (by omega) (ad_cons (pd_var 0) (ad_cons (pd_ix (pd_var 1) pd_int) ad_nil))))
  (pss_d (psd_if (td_not (td_tru (pd_var 2)))
  (pss_d1 (psd_ret (pd_lst ad_nil)))
  pss_dnil)
  (pss_d (psd_if (td_eq (room_eq hr) (pd_ix (pd_var 1) pd_int) pd_str)
  (pss_d1 (psd_ret (pd_ifE (td_tru (pd_call C_lalike hr (by omega) (ad_cons (pd_ix (pd_var 2) pd_int) (ad_cons (pd_ix (pd_var 1) pd_int) ad_nil)))) (pd_lst (ad_cons (pd_var 0) ad_nil)) (pd_lst ad_nil))))
  pss_dnil)
  (pss_d (psd_if (td_eq (room_eq hr) (pd_ix (pd_var 1) pd_int) pd_str)
  (pss_d1 (psd_ret (pd_call C_grown hr (by omega) (ad_cons (pd_var 0) (ad_cons (pd_ix (pd_var 1) pd_int) (ad_cons (pd_ix (pd_var 2) pd_int) ad_nil))))))
  pss_dnil)
  (pss_d (psd_if (PW.pt (wd_and (td_lt (pd_len M.len (pd_ix (pd_var 1) pd_int)) (pd_len M.len (pd_ix (pd_var 1) pd_int))) (pw_and1 (td_eq (room_eq hr) (pd_sl (pd_ix (pd_var 1) pd_int) od_none (od_some (pd_len M.len (pd_ix (pd_var 1) pd_int)))) (pd_ix (pd_var 1) pd_int)))))
  (pss_d1 (psd_ret (pd_lst ad_nil)))
  pss_dnil)
  (pss_d (psd_set (i := 3) sc_done.nd rfl (Or.inl rfl) rfl (pd_call C_without hr (by omega) (ad_cons (pd_var 0) (ad_cons (pd_ix (pd_var 1) pd_int) ad_nil))))
  (pss_d1 (psd_ret (pd_ifE (td_tru (pd_var 3)) (pd_call C_grown hr (by omega) (ad_cons (pd_ix (pd_var 3) pd_int) (ad_cons (pd_ix (pd_var 1) pd_int) (ad_cons (pd_ix (pd_var 2) pd_int) ad_nil)))) (pd_lst ad_nil))))))))))))))
theorem bd_deep {f : Addr} {fd : FuncData} (F : At1 K mg "_law_deep" s_deep f fd) : Binds K fd ["_law_thing"] [] := F.fn.binds (ps := ["_law_thing"]) fun _ _ _ _ _ _ us hl => match us, hl with | [_], _ => rfl
theorem ok_deep {f : Addr} {fd : FuncData} {l_kind l_deep : Nat} {k : Nat} (M : Free mg) (F : At1 K mg "_law_deep" s_deep f fd) {F_kind : List PyData → Option PyData} (C_kind : DefOk P w K mg base l_kind "_law_kind" 1 F_kind) {F_deep_ : List PyData → Option PyData} (C_deep : DefOk P w K mg base l_deep "_law_deep" 1 F_deep_) (h_kind : l_kind ≤ k) (h_deep : l_deep ≤ k) : DefOk P w K mg base (k + 1) "_law_deep" 1 (runF 4 (b_deep F_kind F_deep_)) :=
  def_ok (N := ["_law_thing", "_law_kind_here", "_law_found", "_law_part"]) (ps := ["_law_thing"]) (fb := (b_deep F_kind F_deep_)) F (bd_deep F) sc_deep (fun cdv A outer s H E Hi hr =>
  (pss_d (psd_set (i := 1) sc_deep.nd rfl (Or.inl rfl) rfl (pd_call C_kind hr (by omega) (ad_cons (pd_var 0) ad_nil)))
  (pss_d (psd_if (td_eq (room_eq hr) (pd_var 1) pd_str)
  (pss_d1 (psd_ret pd_int))
  pss_dnil)
  (pss_d (psd_set (i := 2) sc_deep.nd rfl (Or.inl rfl) rfl pd_int)
  (pss_d (psd_forT rfl PassesOwn.never (pd_ix (pd_var 0) pd_int) (pg_name (i := 3) sc_deep.nd rfl (Or.inl rfl)) (tgt1 rfl)
  (pss_d1 (psd_set (i := 2) sc_deep.nd rfl (Or.inl rfl) rfl (pd_max rfl M.max (pd_var 2) (pd_call C_deep hr (by omega) (ad_cons (pd_ifE (td_eq (room_eq hr) (pd_var 1) pd_str) (pd_var 3) (pd_ix (pd_var 3) pd_int)) ad_nil))))))
  (pss_d1 (psd_ret (pd_add pd_int (pd_var 2)))))))))
theorem bd_size {f : Addr} {fd : FuncData} (F : At1 K mg "_law_size" s_size f fd) : Binds K fd ["_law_thing"] [] := F.fn.binds (ps := ["_law_thing"]) fun _ _ _ _ _ _ us hl => match us, hl with | [_], _ => rfl
theorem ok_size {f : Addr} {fd : FuncData} {l_kind l_size : Nat} {k : Nat} (M : Free mg) (F : At1 K mg "_law_size" s_size f fd) {F_kind : List PyData → Option PyData} (C_kind : DefOk P w K mg base l_kind "_law_kind" 1 F_kind) {F_size_ : List PyData → Option PyData} (C_size : DefOk P w K mg base l_size "_law_size" 1 F_size_) (h_kind : l_kind ≤ k) (h_size : l_size ≤ k) : DefOk P w K mg base (k + 1) "_law_size" 1 (runF 4 (b_size F_kind F_size_)) :=
  def_ok (N := ["_law_thing", "_law_kind_here", "_law_found", "_law_part"]) (ps := ["_law_thing"]) (fb := (b_size F_kind F_size_)) F (bd_size F) sc_size (fun cdv A outer s H E Hi hr =>
  (pss_d (psd_set (i := 1) sc_size.nd rfl (Or.inl rfl) rfl (pd_call C_kind hr (by omega) (ad_cons (pd_var 0) ad_nil)))
  (pss_d (psd_set (i := 2) sc_size.nd rfl (Or.inl rfl) rfl pd_int)
  (pss_d (psd_if (td_ne (room_eq hr) (pd_var 1) pd_str)
  (pss_d1 (psd_forT rfl PassesOwn.never (pd_ix (pd_var 0) pd_int) (pg_name (i := 3) sc_size.nd rfl (Or.inl rfl)) (tgt1 rfl)
  (pss_d1 (psd_set (i := 2) sc_size.nd rfl (Or.inl rfl) rfl (pd_add (pd_var 2) (pd_call C_size hr (by omega) (ad_cons (pd_ifE (td_eq (room_eq hr) (pd_var 1) pd_str) (pd_var 3) (pd_ix (pd_var 3) pd_int)) ad_nil)))))))
  pss_dnil)
  (pss_d1 (psd_ret (pd_var 2)))))))
theorem bd_fits {f : Addr} {fd : FuncData} (F : At1 K mg "_law_fits" s_fits f fd) : Binds K fd ["_law_thing"] [] := F.fn.binds (ps := ["_law_thing"]) fun _ _ _ _ _ _ us hl => match us, hl with | [_], _ => rfl
theorem ok_fits {f : Addr} {fd : FuncData} {l_size l_deep : Nat} {k : Nat} (M : Free mg) (F : At1 K mg "_law_fits" s_fits f fd) {F_size_ : List PyData → Option PyData} (C_size : DefOk P w K mg base l_size "_law_size" 1 F_size_) {F_deep_ : List PyData → Option PyData} (C_deep : DefOk P w K mg base l_deep "_law_deep" 1 F_deep_) (h_size : l_size ≤ k) (h_deep : l_deep ≤ k) : DefOk P w K mg base (k + 1) "_law_fits" 1 (runF 1 (b_fits F_size_ F_deep_)) :=
  def_ok (N := ["_law_thing"]) (ps := ["_law_thing"]) (fb := (b_fits F_size_ F_deep_)) F (bd_fits F) sc_fits (fun cdv A outer s H E Hi hr =>
  (pss_d1 (psd_ret (pd_and (pd_le (pd_call C_size hr (by omega) (ad_cons (pd_var 0) ad_nil)) pd_int) (pe_one (pd_le (pd_call C_deep hr (by omega) (ad_cons (pd_var 0) ad_nil)) pd_int))))))
theorem bd_deed {f : Addr} {fd : FuncData} (F : At1 K mg "_law_deed" s_deed f fd) : Binds K fd ["_law_script", "_law_base", "_law_thing"] [] := F.fn.binds (ps := ["_law_script", "_law_base", "_law_thing"]) fun _ _ _ _ _ _ us hl => match us, hl with | [_, _, _], _ => rfl
theorem ok_deed {f : Addr} {fd : FuncData} {l_ways l_mix l_lnamed l_clean l_get l_turned : Nat} {k : Nat} (M : Free mg) (F : At1 K mg "_law_deed" s_deed f fd) {F_ways : List PyData → Option PyData} (C_ways : DefOk P w K mg base l_ways "_law_ways" 1 F_ways) {F_mix : List PyData → Option PyData} (C_mix : DefOk P w K mg base l_mix "_law_mix" 2 F_mix) {F_lnamed : List PyData → Option PyData} (C_lnamed : DefOk P w K mg base l_lnamed "_law_named" 1 F_lnamed) {F_clean : List PyData → Option PyData} (C_clean : DefOk P w K mg base l_clean "_law_clean" 3 F_clean) {F_get : List PyData → Option PyData} (C_get : DefOk P w K mg base l_get "_law_get" 2 F_get) {F_turned_ : List PyData → Option PyData} (C_turned : DefOk P w K mg base l_turned "_law_turned" 2 F_turned_) (h_ways : l_ways ≤ k) (h_mix : l_mix ≤ k) (h_lnamed : l_lnamed ≤ k) (h_clean : l_clean ≤ k) (h_get : l_get ≤ k) (h_turned : l_turned ≤ k) : DefOk P w K mg base (k + 1) "_law_deed" 3 (runF 11 (b_deed F_ways F_mix F_lnamed F_clean F_get F_turned_)) :=
  def_ok (N := ["_law_script", "_law_base", "_law_thing", "_law_ways_here", "_law_names", "_law_goal", "_law_number", "_law_extra", "_law_kind_here", "_law_new", "_law_here"]) (ps := ["_law_script", "_law_base", "_law_thing"]) (fb := (b_deed F_ways F_mix F_lnamed F_clean F_get F_turned_)) F (bd_deed F) sc_deed (fun cdv A outer s H E Hi hr =>
  (pss_d (psd_set (i := 3) sc_deed.nd rfl (Or.inl rfl) rfl (pd_call C_ways hr (by omega) (ad_cons (pd_var 2) ad_nil)))
  (pss_d (psd_set (i := 4) sc_deed.nd rfl (Or.inl rfl) rfl (pd_ix (pd_ix (pd_var 3) (pd_mod (pd_call C_mix hr (by omega) (ad_cons (pd_var 0) (ad_cons (pd_var 1) ad_nil))) (pd_len M.len (pd_var 3)))) pd_int))
  (pss_d (psd_set (i := 5) sc_deed.nd rfl (Or.inl rfl) rfl (pd_ix (pd_ix (pd_var 3) (pd_mod (pd_call C_mix hr (by omega) (ad_cons (pd_var 0) (ad_cons (pd_add (pd_var 1) pd_int) ad_nil))) (pd_len M.len (pd_var 3)))) pd_int))
  (pss_d (psd_set (i := 6) sc_deed.nd rfl (Or.inl rfl) rfl (pd_call C_mix hr (by omega) (ad_cons (pd_var 0) (ad_cons (pd_add (pd_var 1) pd_int) ad_nil))))
  (pss_d (psd_set (i := 7) sc_deed.nd rfl (Or.inl rfl) rfl (pd_lst (ad_cons (pd_tup ad_nil) (ad_cons (pd_tup (ad_cons (pd_tup (ad_cons pd_int ad_nil)) ad_nil)) (ad_cons (pd_tup (ad_cons (pd_tup (ad_cons pd_int ad_nil)) ad_nil)) (ad_cons (pd_tup (ad_cons (pd_call C_lnamed hr (by omega) (ad_cons (pd_mod (pd_fdiv (pd_var 6) pd_int) pd_int) ad_nil)) ad_nil)) (ad_cons (pd_tup (ad_cons (pd_tupleOf M.tuple (pd_lst (ad_cons (pd_add pd_int (pd_mod (pd_fdiv (pd_var 6) pd_int) pd_int)) ad_nil))) ad_nil)) (ad_cons (pd_tup (ad_cons (pd_tup (ad_cons pd_int (ad_cons pd_int ad_nil))) ad_nil)) ad_nil))))))))
  (pss_d (psd_if (td_eq (room_eq hr) (pd_mod (pd_var 6) pd_int) pd_int)
  (pss_d1 (psd_set (i := 4) sc_deed.nd rfl (Or.inl rfl) rfl (pd_add (pd_var 4) (pd_ix (pd_var 7) (pd_mod (pd_fdiv (pd_var 6) pd_int) pd_int)))))
  pss_dnil)
  (pss_d (psd_if (td_eq (room_eq hr) (pd_mod (pd_var 6) pd_int) pd_int)
  (pss_d1 (psd_set (i := 5) sc_deed.nd rfl (Or.inl rfl) rfl (pd_add (pd_var 5) (pd_ix (pd_var 7) (pd_mod (pd_fdiv (pd_var 6) pd_int) pd_int)))))
  pss_dnil)
  (pss_d (psd_set (i := 8) sc_deed.nd rfl (Or.inl rfl) rfl (pd_ix (pd_lst (ad_cons pd_str (ad_cons pd_str (ad_cons pd_str (ad_cons pd_str (ad_cons pd_str (ad_cons pd_str ad_nil))))))) (pd_mod (pd_call C_mix hr (by omega) (ad_cons (pd_var 0) (ad_cons (pd_add (pd_var 1) pd_int) ad_nil))) pd_int)))
  (pss_d (psd_if (PW.pt (wd_and (td_eq (room_eq hr) (pd_var 8) pd_str) (pw_and1 (td_eq (room_eq hr) (pd_mod (pd_fdiv (pd_var 6) pd_int) pd_int) pd_int))))
  (pss_d1 (psd_set (i := 5) sc_deed.nd rfl (Or.inl rfl) rfl (pd_add (pd_var 4) (pd_tup (ad_cons (pd_call C_lnamed hr (by omega) (ad_cons (pd_mod (pd_fdiv (pd_var 6) pd_int) pd_int) ad_nil)) ad_nil)))))
  pss_dnil)
  (pss_d (psd_set (i := 9) sc_deed.nd rfl (Or.inl rfl) rfl (pd_call C_clean hr (by omega) (ad_cons (pd_var 0) (ad_cons (pd_add (pd_var 1) pd_int) (ad_cons (pd_add pd_int (pd_mod (pd_call C_mix hr (by omega) (ad_cons (pd_var 0) (ad_cons (pd_add (pd_var 1) pd_int) ad_nil))) pd_int)) ad_nil)))))
  (pss_d (psd_if (td_eq (room_eq hr) (pd_var 8) pd_str)
  (pss_d1 (psd_ret (pd_tup (ad_cons (pd_var 8) (ad_cons (pd_var 5) (ad_cons (pd_var 9) ad_nil))))))
  pss_dnil)
  (pss_d (psd_if (td_eq (room_eq hr) (pd_var 8) pd_str)
  (pss_d1 (psd_ret (pd_tup (ad_cons (pd_var 8) (ad_cons (pd_var 4) ad_nil)))))
  pss_dnil)
  (pss_d (psd_if (td_eq (room_eq hr) (pd_var 8) pd_str)
  (pss_d1 (psd_ret (pd_tup (ad_cons (pd_var 8) (ad_cons (pd_var 4) (ad_cons (pd_var 9) ad_nil))))))
  pss_dnil)
  (pss_d (psd_if (td_eq (room_eq hr) (pd_var 8) pd_str)
  (pss_d (psd_set (i := 10) sc_deed.nd rfl (Or.inl rfl) rfl (pd_call C_get hr (by omega) (ad_cons (pd_var 2) (ad_cons (pd_var 4) ad_nil))))
  (pss_d (psd_if (PW.pt (wd_and (td_tru (pd_var 10)) (pw_and1 (td_gt (pd_mod (pd_var 6) pd_int) pd_int))))
  (pss_d1 (psd_set (i := 9) sc_deed.nd rfl (Or.inl rfl) rfl (pd_call C_turned hr (by omega) (ad_cons (pd_ix (pd_var 10) pd_int) (ad_cons (pd_var 6) ad_nil)))))
  pss_dnil)
  (pss_d1 (psd_ret (pd_tup (ad_cons (pd_var 8) (ad_cons (pd_var 4) (ad_cons (pd_var 9) ad_nil))))))))
  pss_dnil)
  (pss_d1 (psd_ret (pd_tup (ad_cons (pd_var 8) (ad_cons (pd_var 4) (ad_cons (pd_var 5) ad_nil)))))))))))))))))))))
theorem bd_named_ways {f : Addr} {fd : FuncData} (F : At1 K mg "_law_named_ways" s_named_ways f fd) : Binds K fd ["_law_thing"] [] := F.fn.binds (ps := ["_law_thing"]) fun _ _ _ _ _ _ us hl => match us, hl with | [_], _ => rfl
theorem ok_named_ways {f : Addr} {fd : FuncData} {l_get l_ways : Nat} {k : Nat} (M : Free mg) (F : At1 K mg "_law_named_ways" s_named_ways f fd) {F_get : List PyData → Option PyData} (C_get : DefOk P w K mg base l_get "_law_get" 2 F_get) {F_ways : List PyData → Option PyData} (C_ways : DefOk P w K mg base l_ways "_law_ways" 1 F_ways) (h_get : l_get ≤ k) (h_ways : l_ways ≤ k) : DefOk P w K mg base (k + 1) "_law_named_ways" 1 (runF 6 (b_named_ways F_get F_ways)) :=
  def_ok (N := ["_law_thing", "_law_found", "_law_way", "_law_good", "_law_here", "_law_name"]) (ps := ["_law_thing"]) (fb := (b_named_ways F_get F_ways)) F (bd_named_ways F) sc_named_ways (fun cdv A outer s H E Hi hr =>
  (pss_newL (j := 1) sc_named_ways.nd rfl (Or.inl rfl) ad_nil (fun l =>
  (pss_d (psd_forL rfl PassesOwn.never (pd_call C_ways hr (by omega) (ad_cons (pd_var 0) ad_nil)) (pg_name (i := 2) sc_named_ways.nd rfl (Or.inl rfl)) (tgt1 rfl)
  (pss_d (psd_set (i := 3) sc_named_ways.nd rfl (Or.inl rfl) rfl pd_bl)
  (pss_d (psd_set (i := 4) sc_named_ways.nd rfl (Or.inl rfl) rfl (pd_var 0))
  (pss_d (psd_forT rfl PassesOwn.never (pd_ix (pd_var 2) pd_int) (pg_name (i := 5) sc_named_ways.nd rfl (Or.inl rfl)) (tgt1 rfl)
  (pss_d (psd_set (i := 3) sc_named_ways.nd rfl (Or.inl rfl) rfl (pd_and (pd_var 3) (pe_one (pd_eq (room_eq hr) (pd_ix (pd_var 4) pd_int) pd_str))))
  (pss_d1 (psd_set (i := 4) sc_named_ways.nd rfl (Or.inl rfl) rfl (pd_ix (pd_call C_get hr (by omega) (ad_cons (pd_var 4) (ad_cons (pd_tup (ad_cons (pd_var 5) ad_nil)) ad_nil))) pd_int)))))
  (pss_d1 (psd_if (td_tru (pd_var 3))
  (pss_d1 (psd_app (pv 1) (pd_var 2)))
  pss_dnil))))))
  (pss_d1 (psd_retO (pv 1)))))))
theorem bd_law {f : Addr} {fd : FuncData} (F : At1 K mg "law" s_law f fd) : Binds K fd ["_law_script"] [] := F.fn.binds (ps := ["_law_script"]) fun _ _ _ _ _ _ us hl => match us, hl with | [_], _ => rfl
theorem ok_law {f : Addr} {fd : FuncData} {l_clean l_mix l_done l_deed l_fits l_turned l_between l_lalike l_get l_named_ways : Nat} {k : Nat} (M : Free mg) (F : At1 K mg "law" s_law f fd) {F_clean : List PyData → Option PyData} (C_clean : DefOk P w K mg base l_clean "_law_clean" 3 F_clean) {F_mix : List PyData → Option PyData} (C_mix : DefOk P w K mg base l_mix "_law_mix" 2 F_mix) {F_done : List PyData → Option PyData} (C_done : DefOk P w K mg base l_done "_law_done" 2 F_done) {F_deed : List PyData → Option PyData} (C_deed : DefOk P w K mg base l_deed "_law_deed" 3 F_deed) {F_fits : List PyData → Option PyData} (C_fits : DefOk P w K mg base l_fits "_law_fits" 1 F_fits) {F_turned_ : List PyData → Option PyData} (C_turned : DefOk P w K mg base l_turned "_law_turned" 2 F_turned_) {F_between : List PyData → Option PyData} (C_between : DefOk P w K mg base l_between "between" 2 F_between) {F_lalike_ : List PyData → Option PyData} (C_lalike : DefOk P w K mg base l_lalike "_law_alike" 2 F_lalike_) {F_get : List PyData → Option PyData} (C_get : DefOk P w K mg base l_get "_law_get" 2 F_get) {F_named_ways : List PyData → Option PyData} (C_named_ways : DefOk P w K mg base l_named_ways "_law_named_ways" 1 F_named_ways) (h_clean : l_clean ≤ k) (h_mix : l_mix ≤ k) (h_done : l_done ≤ k) (h_deed : l_deed ≤ k) (h_fits : l_fits ≤ k) (h_turned : l_turned ≤ k) (h_between : l_between ≤ k) (h_lalike : l_lalike ≤ k) (h_get : l_get ≤ k) (h_named_ways : l_named_ways ≤ k) : FnOk P w K mg base CX0 (k + 1) f fd ["_law_script"] (spD K 1 (runF 14 (b_law F_clean F_mix F_done F_deed F_fits F_turned_ F_between F_lalike_ F_get F_named_ways))) :=
  fn_d (N := ["_law_script", "_law_one", "_law_other", "_law_k", "_law_after", "_law_found", "_law_here", "_law_deed_here", "_law_part", "_law_names", "_law_value_here", "_law_there_here", "_law_same", "_law_way"]) (ps := ["_law_script"]) (fb := (b_law F_clean F_mix F_done F_deed F_fits F_turned_ F_between F_lalike_ F_get F_named_ways)) F.fn sc_law (fun cdv A outer s H E Hi hr =>
  (pss_d (psd_set (i := 1) sc_law.nd rfl (Or.inl rfl) rfl (pd_call C_clean hr (by omega) (ad_cons (pd_var 0) (ad_cons pd_int (ad_cons (pd_add pd_int (pd_mod (pd_call C_mix hr (by omega) (ad_cons (pd_var 0) (ad_cons pd_int ad_nil))) pd_int)) ad_nil)))))
  (pss_d (psd_set (i := 2) sc_law.nd rfl (Or.inl rfl) rfl (pd_call C_clean hr (by omega) (ad_cons (pd_var 0) (ad_cons pd_int (ad_cons (pd_add pd_int (pd_mod (pd_call C_mix hr (by omega) (ad_cons (pd_var 0) (ad_cons pd_int ad_nil))) pd_int)) ad_nil)))))
  (pss_d (psd_if (td_gt (pd_mod (pd_call C_mix hr (by omega) (ad_cons (pd_var 0) (ad_cons pd_int ad_nil))) pd_int) pd_int)
  (pss_d (psd_set (i := 2) sc_law.nd rfl (Or.inl rfl) rfl (pd_var 1))
  (pss_d (psd_forR rfl PassesOwn.never M.range (pd_mod (pd_call C_mix hr (by omega) (ad_cons (pd_var 0) (ad_cons pd_int ad_nil))) pd_int) (pg_name (i := 3) sc_law.nd rfl (Or.inl rfl)) (tgt1 rfl)
  (pss_d (psd_set (i := 4) sc_law.nd rfl (Or.inl rfl) rfl (pd_call C_done hr (by omega) (ad_cons (pd_var 2) (ad_cons (pd_call C_deed hr (by omega) (ad_cons (pd_var 0) (ad_cons (pd_add pd_int (pd_mul pd_int (pd_var 3))) (ad_cons (pd_var 2) ad_nil)))) ad_nil))))
  (pss_d1 (psd_if (PW.pt (wd_and (td_tru (pd_var 4)) (pw_and1 (td_tru (pd_call C_fits hr (by omega) (ad_cons (pd_ix (pd_var 4) pd_int) ad_nil))))))
  (pss_d1 (psd_set (i := 2) sc_law.nd rfl (Or.inl rfl) rfl (pd_ix (pd_var 4) pd_int)))
  pss_dnil))))
  (pss_d1 (psd_set (i := 2) sc_law.nd rfl (Or.inl rfl) rfl (pd_call C_turned hr (by omega) (ad_cons (pd_var 2) (ad_cons (pd_call C_mix hr (by omega) (ad_cons (pd_var 0) (ad_cons pd_int ad_nil))) ad_nil)))))))
  pss_dnil)
  (pss_d (psd_set (i := 5) sc_law.nd rfl (Or.inl rfl) rfl (pd_call C_between hr (by omega) (ad_cons (pd_var 1) (ad_cons (pd_var 2) ad_nil))))
  (pss_d (psd_if (PW.pt (wd_or (td_not (td_tru (pd_isLst M.isinstance M.list (pd_var 5)))) (pw_or1 (td_ne (room_eq hr) (pd_eq (room_eq hr) (pd_var 5) (pd_lst ad_nil)) (pd_call C_lalike hr (by omega) (ad_cons (pd_var 1) (ad_cons (pd_var 2) ad_nil)))))))
  (pss_d1 (psd_ret pd_bl))
  pss_dnil)
  (pss_d (psd_set (i := 6) sc_law.nd rfl (Or.inl rfl) rfl (pd_var 1))
  (pss_d (psd_forL rfl PassesOwn.never (pd_var 5) (pg_name (i := 7) sc_law.nd rfl (Or.inl rfl)) (tgt1 rfl)
  (pss_d (psd_if (PW.pt (wd_or (td_not (td_tru (pd_isTup M.isinstance M.tuple (pd_var 7)))) (pw_or1 (td_notIn (pd_ix (pd_var 7) pd_int) (pd_tup (ad_cons pd_str (ad_cons pd_str (ad_cons pd_str ad_nil))))))))
  (pss_d1 (psd_ret pd_bl))
  pss_dnil)
  (pss_d (psd_if (PW.pt (wd_or (td_ne (room_eq hr) (pd_len M.len (pd_var 7)) (pd_add pd_int (pd_intOf M.int (pd_ne (room_eq hr) (pd_ix (pd_var 7) pd_int) pd_str)))) (pw_or1 (td_not (td_tru (pd_isTup M.isinstance M.tuple (pd_ix (pd_var 7) pd_int)))))))
  (pss_d1 (psd_ret pd_bl))
  pss_dnil)
  (pss_d (psd_if (td_not (td_tru (pd_all rfl M.all (pd_lcT rfl sc_law.nd (pd_ix (pd_var 7) pd_int) (blkOk_by (own := [("_law_part", 8)]) (N := ["_law_script", "_law_one", "_law_other", "_law_k", "_law_after", "_law_found", "_law_here", "_law_deed_here", "_law_part", "_law_names", "_law_value_here", "_law_there_here", "_law_same", "_law_way"]) (sc := defScope s_law) (by decide +kernel)) rfl (fun _ _ _ _ _ => pg_name (i := 8) sc_law.nd rfl (Or.inl rfl)) (fun _ _ _ _ _ => pts_d0) (fun _ _ _ _ _ => (pd_isTup M.isinstance M.tuple (pd_var 8)))))))
  (pss_d1 (psd_ret pd_bl))
  pss_dnil)
  (pss_d (psd_set (i := 4) sc_law.nd rfl (Or.inl rfl) rfl (pd_call C_done hr (by omega) (ad_cons (pd_var 6) (ad_cons (pd_var 7) ad_nil))))
  (pss_d (psd_if (td_not (td_tru (pd_var 4)))
  (pss_d1 (psd_ret pd_bl))
  pss_dnil)
  (pss_d1 (psd_set (i := 6) sc_law.nd rfl (Or.inl rfl) rfl (pd_ix (pd_var 4) pd_int)))))))))
  (pss_d (psd_if (td_not (td_tru (pd_call C_lalike hr (by omega) (ad_cons (pd_var 6) (ad_cons (pd_var 2) ad_nil)))))
  (pss_d1 (psd_ret pd_bl))
  pss_dnil)
  (pss_d (psd_forL rfl PassesOwn.never (pd_call C_named_ways hr (by omega) (ad_cons (pd_var 1) ad_nil)) (pg_tup rfl (pgs_cons (pg_name (i := 9) sc_law.nd rfl (Or.inr rfl)) (pgs_cons (pg_name (i := 10) sc_law.nd rfl (Or.inl rfl)) pgs_nil))) (tgt2 rfl rfl)
  (pss_d (psd_set (i := 11) sc_law.nd rfl (Or.inl rfl) rfl (pd_call C_get hr (by omega) (ad_cons (pd_var 2) (ad_cons (pd_var 9) ad_nil))))
  (pss_d1 (psd_if (PW.pt (wd_and (td_tru (pd_var 11)) (wd_and (td_tru (pd_call C_lalike hr (by omega) (ad_cons (pd_var 10) (ad_cons (pd_ix (pd_var 11) pd_int) ad_nil)))) (pw_and1 (td_tru (pd_lcL rfl sc_law.nd (pd_var 5) (blkOk_by (own := [("_law_deed_here", 7)]) (N := ["_law_script", "_law_one", "_law_other", "_law_k", "_law_after", "_law_found", "_law_here", "_law_deed_here", "_law_part", "_law_names", "_law_value_here", "_law_there_here", "_law_same", "_law_way"]) (sc := defScope s_law) (by decide +kernel)) rfl (fun _ _ _ _ _ => pg_name (i := 7) sc_law.nd rfl (Or.inl rfl)) (fun _ _ _ _ _ => (pts_d1 (td_eq (room_eq hr) (pd_ix (pd_var 7) pd_int) (pd_var 9)))) (fun _ _ _ _ _ => (pd_var 7))))))))
  (pss_d (psd_setLcL (j := 12) rfl sc_law.nd rfl rfl rfl (sw_true rfl rfl rfl (by decide +kernel)) (pd_call C_named_ways hr (by omega) (ad_cons (pd_var 2) ad_nil)) (blkOk_by (own := [("_law_way", 13)]) (N := ["_law_script", "_law_one", "_law_other", "_law_k", "_law_after", "_law_found", "_law_here", "_law_deed_here", "_law_part", "_law_names", "_law_value_here", "_law_there_here", "_law_same", "_law_way"]) (sc := defScope s_law) (by decide +kernel)) rfl (fun _ _ _ _ _ => pg_name (i := 13) sc_law.nd rfl (Or.inl rfl)) (fun _ _ _ _ _ => (pts_d1 (td_eq (room_eq hr) (pd_ix (pd_var 13) pd_int) (pd_var 9)))) (fun _ _ _ _ _ => (pd_var 13)))
  (pss_d1 (psd_if (td_tru (pd_var 12))
  (pss_d1 (psd_ret pd_bl))
  pss_dnil)))
  pss_dnil))))
  (pss_d1 (psd_ret pd_bl))))))))))))
end Pg

namespace Pg
open PySem PySem.Spec PyProof.Rows L2 DL
structure AllAt (K : PySem.W.Frag) (mg : Str → Option Value) : Prop where
  a_figures : ∃ f fd, At1 K mg "figures" s_figures f fd
  a_named : ∃ f fd, At1 K mg "named" s_named f fd
  a_alike : ∃ f fd, At1 K mg "alike" s_alike f fd
  a_gather_members : ∃ f fd, At1 K mg "gather_members" s_gather_members f fd
  a_gather_row : ∃ f fd, At1 K mg "gather_row" s_gather_row f fd
  a_gather : ∃ f fd, At1 K mg "gather" s_gather f fd
  a_between : ∃ f fd, At1 K mg "between" s_between f fd
  a_cell : ∃ f fd, At1 K mg "_law_cell" s_cell f fd
  a_mix : ∃ f fd, At1 K mg "_law_mix" s_mix f fd
  a_lnamed : ∃ f fd, At1 K mg "_law_named" s_lnamed f fd
  a_small_value : ∃ f fd, At1 K mg "_law_small_value" s_small_value f fd
  a_put_in : ∃ f fd, At1 K mg "_law_put_in" s_put_in f fd
  a_shut : ∃ f fd, At1 K mg "_law_shut" s_shut f fd
  a_clean : ∃ f fd, At1 K mg "_law_clean" s_clean f fd
  a_kind : ∃ f fd, At1 K mg "_law_kind" s_kind f fd
  a_lalike : ∃ f fd, At1 K mg "_law_alike" s_lalike f fd
  a_turned : ∃ f fd, At1 K mg "_law_turned" s_turned f fd
  a_ways : ∃ f fd, At1 K mg "_law_ways" s_ways f fd
  a_place : ∃ f fd, At1 K mg "_law_place" s_place f fd
  a_index : ∃ f fd, At1 K mg "_law_index" s_index f fd
  a_get : ∃ f fd, At1 K mg "_law_get" s_get f fd
  a_with : ∃ f fd, At1 K mg "_law_with" s_with f fd
  a_grown : ∃ f fd, At1 K mg "_law_grown" s_grown f fd
  a_without : ∃ f fd, At1 K mg "_law_without" s_without f fd
  a_replaced : ∃ f fd, At1 K mg "_law_replaced" s_replaced f fd
  a_done : ∃ f fd, At1 K mg "_law_done" s_done f fd
  a_deep : ∃ f fd, At1 K mg "_law_deep" s_deep f fd
  a_size : ∃ f fd, At1 K mg "_law_size" s_size f fd
  a_fits : ∃ f fd, At1 K mg "_law_fits" s_fits f fd
  a_deed : ∃ f fd, At1 K mg "_law_deed" s_deed f fd
  a_named_ways : ∃ f fd, At1 K mg "_law_named_ways" s_named_ways f fd
section
variable {P : Program} {w : World} {K : PySem.W.Frag} {mg : Str → Option Value} {base : Heap}
theorem rec_ok {x : Str} {st : Stmt} {f : Addr} {fd : FuncData} {ps : List Str} {c n : Nat} {F : Nat → List PyData → Option PyData} (A : At1 K mg x st f fd) (bd : Binds K fd ps []) (h0 : F 0 = fun _ => none)
    (hs : ∀ m, DefOk P w K mg base (c + m) x n (F m) → DefOk P w K mg base (c + m + 1) x n (F (m + 1))) : ∀ m, DefOk P w K mg base (c + m) x n (F m)
  | 0 => by rw [h0]; exact def_zero A bd
  | m + 1 => hs m (rec_ok A bd h0 hs m)
theorem law_fn (M : Free mg) (A : AllAt K mg) {f : Addr} {fd : FuncData} (F : At1 K mg "law" s_law f fd) : FnOk P w K mg base CX0 215 f fd ["_law_script"] (spD K 1 F_law) := by
  obtain ⟨f_figures, d_figures, A_figures⟩ := A.a_figures
  obtain ⟨f_named, d_named, A_named⟩ := A.a_named
  obtain ⟨f_alike, d_alike, A_alike⟩ := A.a_alike
  obtain ⟨f_gather_members, d_gather_members, A_gather_members⟩ := A.a_gather_members
  obtain ⟨f_gather_row, d_gather_row, A_gather_row⟩ := A.a_gather_row
  obtain ⟨f_gather, d_gather, A_gather⟩ := A.a_gather
  obtain ⟨f_between, d_between, A_between⟩ := A.a_between
  obtain ⟨f_cell, d_cell, A_cell⟩ := A.a_cell
  obtain ⟨f_mix, d_mix, A_mix⟩ := A.a_mix
  obtain ⟨f_lnamed, d_lnamed, A_lnamed⟩ := A.a_lnamed
  obtain ⟨f_small_value, d_small_value, A_small_value⟩ := A.a_small_value
  obtain ⟨f_put_in, d_put_in, A_put_in⟩ := A.a_put_in
  obtain ⟨f_shut, d_shut, A_shut⟩ := A.a_shut
  obtain ⟨f_clean, d_clean, A_clean⟩ := A.a_clean
  obtain ⟨f_kind, d_kind, A_kind⟩ := A.a_kind
  obtain ⟨f_lalike, d_lalike, A_lalike⟩ := A.a_lalike
  obtain ⟨f_turned, d_turned, A_turned⟩ := A.a_turned
  obtain ⟨f_ways, d_ways, A_ways⟩ := A.a_ways
  obtain ⟨f_place, d_place, A_place⟩ := A.a_place
  obtain ⟨f_index, d_index, A_index⟩ := A.a_index
  obtain ⟨f_get, d_get, A_get⟩ := A.a_get
  obtain ⟨f_with, d_with, A_with⟩ := A.a_with
  obtain ⟨f_grown, d_grown, A_grown⟩ := A.a_grown
  obtain ⟨f_without, d_without, A_without⟩ := A.a_without
  obtain ⟨f_replaced, d_replaced, A_replaced⟩ := A.a_replaced
  obtain ⟨f_done, d_done, A_done⟩ := A.a_done
  obtain ⟨f_deep, d_deep, A_deep⟩ := A.a_deep
  obtain ⟨f_size, d_size, A_size⟩ := A.a_size
  obtain ⟨f_fits, d_fits, A_fits⟩ := A.a_fits
  obtain ⟨f_deed, d_deed, A_deed⟩ := A.a_deed
  obtain ⟨f_named_ways, d_named_ways, A_named_ways⟩ := A.a_named_ways
  have C_figures : DefOk P w K mg base 1 "figures" 1 F_figures := ok_figures (k := 0) M A_figures
  have C_named : DefOk P w K mg base 1 "named" 2 F_named := ok_named (k := 0) M A_named
  have R_alike : ∀ m, DefOk P w K mg base (2 + m) "alike" 2 (F_alike m) := rec_ok A_alike (bd_alike A_alike) rfl fun m h => ok_alike M A_alike h C_named (Nat.le_refl _) (by omega)
  have R_gather : ∀ m, DefOkO P w K mg base (73 + 2 * m) "gather" 3 (FO_gather m) := by
    intro m
    induction m with
    | zero => exact def_zeroO A_gather (bd_gather A_gather)
    | succ m ih =>
      have c1 := ok_gather_members (k := 73 + 2 * m) M A_gather_members C_named ih (by omega) (Nat.le_refl _)
      have c2 := ok_gather_row (k := 73 + 2 * m) M A_gather_row ih C_figures (Nat.le_refl _) (by omega)
      exact ok_gather (k := 73 + 2 * m + 1) M A_gather (R_alike 70) c1 c2 (by omega) (Nat.le_refl _) (Nat.le_refl _)
  have C_between : DefOk P w K mg base 214 "between" 2 F_between := ok_between (k := 213) M A_between (R_gather 70) (by omega)
  have C_cell : DefOk P w K mg base 1 "_law_cell" 2 F_cell := ok_cell (k := 0) M A_cell
  have C_mix : DefOk P w K mg base 2 "_law_mix" 2 F_mix := ok_mix (k := 1) M A_mix C_cell (by omega)
  have C_lnamed : DefOk P w K mg base 1 "_law_named" 1 F_lnamed := ok_lnamed (k := 0) M A_lnamed
  have C_small_value : DefOk P w K mg base 1 "_law_small_value" 1 F_small_value := ok_small_value (k := 0) M A_small_value
  have C_put_in : DefOkF P w K mg base 2 "_law_put_in" 1 FF_put_in := ok_put_in (k := 1) M A_put_in C_lnamed (by omega)
  have C_shut : DefOkF P w K mg base 3 "_law_shut" 0 FF_shut := ok_shut (k := 2) M A_shut C_put_in (by omega)
  have C_clean : DefOk P w K mg base 4 "_law_clean" 3 F_clean := ok_clean (k := 3) M A_clean C_mix C_small_value C_shut C_put_in (by omega) (by omega) (by omega) (by omega)
  have C_kind : DefOk P w K mg base 1 "_law_kind" 1 F_kind := ok_kind (k := 0) M A_kind
  have R_lalike : ∀ m, DefOk P w K mg base (2 + m) "_law_alike" 2 (F_lalike m) := rec_ok A_lalike (bd_lalike A_lalike) rfl fun m h => ok_lalike M A_lalike C_kind h (by omega) (Nat.le_refl _)
  have R_turned : ∀ m, DefOk P w K mg base (2 + m) "_law_turned" 2 (F_turned m) := rec_ok A_turned (bd_turned A_turned) rfl fun m h => ok_turned M A_turned C_kind h (by omega) (Nat.le_refl _)
  have R_deep : ∀ m, DefOk P w K mg base (2 + m) "_law_deep" 1 (F_deep m) := rec_ok A_deep (bd_deep A_deep) rfl fun m h => ok_deep M A_deep C_kind h (by omega) (Nat.le_refl _)
  have R_size : ∀ m, DefOk P w K mg base (2 + m) "_law_size" 1 (F_size m) := rec_ok A_size (bd_size A_size) rfl fun m h => ok_size M A_size C_kind h (by omega) (Nat.le_refl _)
  have C_ways : DefOk P w K mg base 1 "_law_ways" 1 F_ways := ok_ways (k := 0) M A_ways
  have C_place : DefOk P w K mg base 1 "_law_place" 1 F_place := ok_place (k := 0) M A_place
  have C_index : DefOk P w K mg base 2 "_law_index" 2 F_index := ok_index (k := 1) M A_index C_place (by omega)
  have C_get : DefOk P w K mg base 3 "_law_get" 2 F_get := ok_get (k := 2) M A_get C_index (by omega)
  have C_with : DefOk P w K mg base 3 "_law_with" 3 F_with := ok_with (k := 2) M A_with C_index (by omega)
  have R_grown : ∀ m, DefOk P w K mg base (4 + m) "_law_grown" 3 (F_grown m) := rec_ok A_grown (bd_grown A_grown) rfl fun m h => ok_grown M A_grown C_index h C_get C_with C_place (by omega) (Nat.le_refl _) (by omega) (by omega) (by omega)
  have R_without : ∀ m, DefOk P w K mg base (4 + m) "_law_without" 2 (F_without m) := rec_ok A_without (bd_without A_without) rfl fun m h => ok_without M A_without C_get C_index h C_with (by omega) (by omega) (Nat.le_refl _) (by omega)
  have R_replaced : ∀ m, DefOk P w K mg base (4 + m) "_law_replaced" 3 (F_replaced m) := rec_ok A_replaced (bd_replaced A_replaced) rfl fun m h => ok_replaced M A_replaced C_get h C_with (by omega) (Nat.le_refl _) (by omega)
  have C_done : DefOk P w K mg base 75 "_law_done" 2 F_done := ok_done (k := 74) M A_done (R_grown 70) (R_without 70) (R_replaced 70) C_get (R_lalike 70) (by omega) (by omega) (by omega) (by omega) (by omega)
  have C_fits : DefOk P w K mg base 143 "_law_fits" 1 F_fits := ok_fits (k := 142) M A_fits (R_size 140) (R_deep 140) (by omega) (by omega)
  have C_deed : DefOk P w K mg base 73 "_law_deed" 3 F_deed := ok_deed (k := 72) M A_deed C_ways C_mix C_lnamed C_clean C_get (R_turned 70) (by omega) (by omega) (by omega) (by omega) (by omega) (by omega)
  have C_named_ways : DefOk P w K mg base 4 "_law_named_ways" 1 F_named_ways := ok_named_ways (k := 3) M A_named_ways C_get C_ways (by omega) (by omega)
  exact ok_law (k := 214) M F C_clean C_mix C_done C_deed C_fits (R_turned 70) C_between (R_lalike 70) C_get C_named_ways (by omega) (by omega) (by omega) (by omega) (by omega) (by omega) (by omega) (by omega) (by omega) (by omega)
end
theorem at1_mk {K : PySem.W.Frag} {h : Heap} {mg : Str → Option Value} {x : Str} {st : Stmt} {f : Addr} {oc : Value} {od an : Option Addr} {sl : Array (Option Value)} {kV dc pm cd ct : Value} (X : K.In h) (G : h.Ns mainGlobals mg)
    (a : PySem.W.nsIn K mainGlobals x = some (some (.ref f))) (l : K.lookup f = some ⟨oc, od, .func (PySem.W.fnOf x x (defArgs st) (defBody st) (defScope st) .none kV dc pm an cd ct), sl⟩) (c : PySem.W.codeIn K cd x = true) (k : PySem.W.keepIn K (.ref f) = true) :
    At1 K mg x st f (PySem.W.fnOf x x (defArgs st) (defBody st) (defScope st) .none kV dc pm an cd ct) := ⟨fun_mk l c k, PySem.W.mg_of X G a⟩
theorem law_all {P : Program} {w : World} {K : PySem.W.Frag} {mg : Str → Option Value} {fa : Addr} {f : Addr} {fd : FuncData} (M : Free mg) (A : AllAt K mg) (F : At1 K mg "law" s_law f fd) (hfa : mg "law" = some (.ref fa)) :
    ∃ fd : FuncData, (∀ (s : Shared) (v : Value), BindsTo s fd ⟨[v], []⟩ [("_law_script", v)]) ∧ ∀ base : Heap, K.In base → base.Ns mainGlobals mg → FnOk P w K mg base CX0 215 fa fd ["_law_script"] (spD K 1 F_law) := by
  have e := hfa.symm.trans F.m
  cases e
  refine ⟨fd, fun s v => ?_, fun base _ _ => law_fn M A F⟩
  obtain ⟨oc, od, kV, doc, pm, an, cdv, ct, osl, rfl, lk, hcd⟩ := F.fn.ex
  exact .of_eq rfl
theorem walk {l : PySem.W.OpenLaw} {q : Program} {loose : List Str} {XP : (Str → Option Value) → Heap → Prop} {YP : World → Heap → Prop} {d : DefRec} {K : Params → PySem.W.Frag} (plain : ∀ ns : List Int, ns.length ≤ 63 → F_law [.list (ns.map PyData.int)] = some (.bool true)) (hn : l.most = some 63) (hdf : d.params.defaults = [])
    (hY : ∀ (w : World) (h : Heap), YP w h → (K w.params).In h)
    (F : ∀ (w : World) (mg : Str → Option Value) (fa : Addr) (h : Heap), (K w.params).In h → h.Ns mainGlobals mg → mg d.name = some (.ref fa) →
      ∃ fd : FuncData, (∀ (s : Shared) (u : Value), BindsTo s fd ⟨[u], []⟩ [("_law_script", u)]) ∧ ∀ base : Heap, (K w.params).In base → base.Ns mainGlobals mg → FnOk l.prog w (K w.params) mg base CX0 215 fa fd ["_law_script"] (spD (K w.params) 1 F_law)) :
    PySem.W.WalkO q loose XP YP l.row.toRowW d [] (fun f vs => PySem.call f vs) :=
  L2.walk_of (n := 63) (k := 215) (x := "_law_script") (CX := fun _ => CX0) (sp := fun w => spD (K w.params) 1 F_law) hn (by decide) hdf ⟨rfl, by decide, by decide⟩ hY F
    (fun w H a ns hl _ hS => ⟨H, [.list (ns.map PyData.int)], .bool true, Same.refl H, .cons (.lst hS (ints_dpa ns)) .nil, rfl, plain ns hl, fun v Hi' H' _ hv => dp_bl hv⟩) fun _ _ _ _ _ z => z
end Pg

open PySem PySem.W PyProof.Rows
set_option maxRecDepth 100000 in
set_option maxHeartbeats 0 in
theorem PySem.Challenge.cw_plainglass_k52_whole_between_holds : PySem.Challenge.rw_plainglass_k52_whole_between.Holds := by
  w_on; o_law; k_head; (case hw => w_witness2)
  k_fill
  refine Pg.walk (l := PySem.Challenge.rw_plainglass_k52_whole_between) (fun ns _ => Pl.plain ns) rfl rfl (fun w h Y => PySem.W.kIn_of Y) ?F
  case F =>
    intro w mg fa h KX G hmg
    have M : DL.Free mg := by
      refine' ⟨PySem.W.mg_none_of KX G ?z0, PySem.W.mg_none_of KX G ?z1, PySem.W.mg_none_of KX G ?z2, PySem.W.mg_none_of KX G ?z3, PySem.W.mg_none_of KX G ?z4, PySem.W.mg_none_of KX G ?z5, PySem.W.mg_none_of KX G ?z6, PySem.W.mg_none_of KX G ?z7, PySem.W.mg_none_of KX G ?z8, PySem.W.mg_none_of KX G ?z9, PySem.W.mg_none_of KX G ?z10⟩
      (case z0 => k_is)
      (case z1 => k_is)
      (case z2 => k_is)
      (case z3 => k_is)
      (case z4 => k_is)
      (case z5 => k_is)
      (case z6 => k_is)
      (case z7 => k_is)
      (case z8 => k_is)
      (case z9 => k_is)
      (case z10 => k_is)
    refine' Pg.law_all M ⟨⟨_, _, Pg.at1_mk KX G ?a0 ?l0 ?c0 ?k0⟩, ⟨_, _, Pg.at1_mk KX G ?a1 ?l1 ?c1 ?k1⟩, ⟨_, _, Pg.at1_mk KX G ?a2 ?l2 ?c2 ?k2⟩, ⟨_, _, Pg.at1_mk KX G ?a3 ?l3 ?c3 ?k3⟩, ⟨_, _, Pg.at1_mk KX G ?a4 ?l4 ?c4 ?k4⟩, ⟨_, _, Pg.at1_mk KX G ?a5 ?l5 ?c5 ?k5⟩, ⟨_, _, Pg.at1_mk KX G ?a6 ?l6 ?c6 ?k6⟩, ⟨_, _, Pg.at1_mk KX G ?a7 ?l7 ?c7 ?k7⟩, ⟨_, _, Pg.at1_mk KX G ?a8 ?l8 ?c8 ?k8⟩, ⟨_, _, Pg.at1_mk KX G ?a9 ?l9 ?c9 ?k9⟩, ⟨_, _, Pg.at1_mk KX G ?a10 ?l10 ?c10 ?k10⟩, ⟨_, _, Pg.at1_mk KX G ?a11 ?l11 ?c11 ?k11⟩, ⟨_, _, Pg.at1_mk KX G ?a12 ?l12 ?c12 ?k12⟩, ⟨_, _, Pg.at1_mk KX G ?a13 ?l13 ?c13 ?k13⟩, ⟨_, _, Pg.at1_mk KX G ?a14 ?l14 ?c14 ?k14⟩, ⟨_, _, Pg.at1_mk KX G ?a15 ?l15 ?c15 ?k15⟩, ⟨_, _, Pg.at1_mk KX G ?a16 ?l16 ?c16 ?k16⟩, ⟨_, _, Pg.at1_mk KX G ?a17 ?l17 ?c17 ?k17⟩, ⟨_, _, Pg.at1_mk KX G ?a18 ?l18 ?c18 ?k18⟩, ⟨_, _, Pg.at1_mk KX G ?a19 ?l19 ?c19 ?k19⟩, ⟨_, _, Pg.at1_mk KX G ?a20 ?l20 ?c20 ?k20⟩, ⟨_, _, Pg.at1_mk KX G ?a21 ?l21 ?c21 ?k21⟩, ⟨_, _, Pg.at1_mk KX G ?a22 ?l22 ?c22 ?k22⟩, ⟨_, _, Pg.at1_mk KX G ?a23 ?l23 ?c23 ?k23⟩, ⟨_, _, Pg.at1_mk KX G ?a24 ?l24 ?c24 ?k24⟩, ⟨_, _, Pg.at1_mk KX G ?a25 ?l25 ?c25 ?k25⟩, ⟨_, _, Pg.at1_mk KX G ?a26 ?l26 ?c26 ?k26⟩, ⟨_, _, Pg.at1_mk KX G ?a27 ?l27 ?c27 ?k27⟩, ⟨_, _, Pg.at1_mk KX G ?a28 ?l28 ?c28 ?k28⟩, ⟨_, _, Pg.at1_mk KX G ?a29 ?l29 ?c29 ?k29⟩, ⟨_, _, Pg.at1_mk KX G ?a30 ?l30 ?c30 ?k30⟩⟩ (Pg.at1_mk KX G ?aL ?lL ?cL ?kL) hmg
    (case a0 => k_is); (case l0 => k_is); (case c0 => k_is); (case k0 => k_is)
    (case a1 => k_is); (case l1 => k_is); (case c1 => k_is); (case k1 => k_is)
    (case a2 => k_is); (case l2 => k_is); (case c2 => k_is); (case k2 => k_is)
    (case a3 => k_is); (case l3 => k_is); (case c3 => k_is); (case k3 => k_is)
    (case a4 => k_is); (case l4 => k_is); (case c4 => k_is); (case k4 => k_is)
    (case a5 => k_is); (case l5 => k_is); (case c5 => k_is); (case k5 => k_is)
    (case a6 => k_is); (case l6 => k_is); (case c6 => k_is); (case k6 => k_is)
    (case a7 => k_is); (case l7 => k_is); (case c7 => k_is); (case k7 => k_is)
    (case a8 => k_is); (case l8 => k_is); (case c8 => k_is); (case k8 => k_is)
    (case a9 => k_is); (case l9 => k_is); (case c9 => k_is); (case k9 => k_is)
    (case a10 => k_is); (case l10 => k_is); (case c10 => k_is); (case k10 => k_is)
    (case a11 => k_is); (case l11 => k_is); (case c11 => k_is); (case k11 => k_is)
    (case a12 => k_is); (case l12 => k_is); (case c12 => k_is); (case k12 => k_is)
    (case a13 => k_is); (case l13 => k_is); (case c13 => k_is); (case k13 => k_is)
    (case a14 => k_is); (case l14 => k_is); (case c14 => k_is); (case k14 => k_is)
    (case a15 => k_is); (case l15 => k_is); (case c15 => k_is); (case k15 => k_is)
    (case a16 => k_is); (case l16 => k_is); (case c16 => k_is); (case k16 => k_is)
    (case a17 => k_is); (case l17 => k_is); (case c17 => k_is); (case k17 => k_is)
    (case a18 => k_is); (case l18 => k_is); (case c18 => k_is); (case k18 => k_is)
    (case a19 => k_is); (case l19 => k_is); (case c19 => k_is); (case k19 => k_is)
    (case a20 => k_is); (case l20 => k_is); (case c20 => k_is); (case k20 => k_is)
    (case a21 => k_is); (case l21 => k_is); (case c21 => k_is); (case k21 => k_is)
    (case a22 => k_is); (case l22 => k_is); (case c22 => k_is); (case k22 => k_is)
    (case a23 => k_is); (case l23 => k_is); (case c23 => k_is); (case k23 => k_is)
    (case a24 => k_is); (case l24 => k_is); (case c24 => k_is); (case k24 => k_is)
    (case a25 => k_is); (case l25 => k_is); (case c25 => k_is); (case k25 => k_is)
    (case a26 => k_is); (case l26 => k_is); (case c26 => k_is); (case k26 => k_is)
    (case a27 => k_is); (case l27 => k_is); (case c27 => k_is); (case k27 => k_is)
    (case a28 => k_is); (case l28 => k_is); (case c28 => k_is); (case k28 => k_is)
    (case a29 => k_is); (case l29 => k_is); (case c29 => k_is); (case k29 => k_is)
    (case a30 => k_is); (case l30 => k_is); (case c30 => k_is); (case k30 => k_is)
    (case aL => k_is); (case lL => k_is); (case cL => k_is); (case kL => k_is)
