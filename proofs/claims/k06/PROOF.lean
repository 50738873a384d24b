import PyProof.Rows.All
import Wide.All
import OpenK.AllK
import Wide.FinOn
import HandS.ForMost
import HandS.ForExc
import HandS.Wide
import HandS.Walk
import HandS.DictComp
import HandS.Codes
import HandS.IsInst
import HandS.StrMore
import HandS.Style
import HandS.ExcValue
import HandS.ExcInit
import HandS.ExcField
import HandS.ExcIs
import HandS.EndBits
import HandS.NoneIn
import HandS.Hot
import HandS.HotCalls
import HandS.Comp
import HandS.ExcCtx
import HandS.WordsExc
import HandS.Iter
import KE.KDictSum
import PyProof.Rows.SortShellAny
import HandS.Small
import HandS.Property
import KE.KOpsOwn
import HandS.OwnEq
import HandS.ClsMeth
import PyProof.InstNe
import PyProof.Rows.SumGenD
import HandS.Sort
import HandS.TryMany
import HandS.ExcInitHot
import KE.LtData
import KE.DatumOrd
import KE.KDictList
import HandS.DictTup
import PyProof.EqKinds
import HandS.Set
import HandS.SetTxt0
import HandS.SetFor
import HandS.Star
import KE.KUnpackStar
import HandS.Finally
import PyProof.SumAny
import HandS.TupAny
import PyProof.NeKinds
import HandS.GenList
import HandS.SortInts
import HandS.FStr
import HandS.RaiseMore
import HandS.Conv
import PyProof.Rows.StrIntSpec
import PyProof.MinMaxWalk
import PyProof.FString5
import HandS.Text
import HandS.WideMore
import HandS.Replace
import KE.KeyNested
import PyProof.DictRoadsH
import PyProof.Rows.TupTab
import KE.KTupSum
import KE.KDictPairs
import PySem.Challenge.RW_windowcounts_k06_errors_of_tables
set_option Elab.async false
set_option linter.all false
set_option maxRecDepth 100000
set_option maxHeartbeats 2000000
/-! Z0: a layer of two heaps (what a def knows for good, what stands), expressions evaluated to what a predicate says. -/
namespace Z
open PySem L2
open PyProof.Rows (subscriptTail)

/-! ### canonical readings -/
section
variable {X : Cx}
def cE (X : Cx) (e : Expr) : TE := fun st K Q => ∀ pins s, Inv X pins st K s → wpAny (model X.prog X.w) X.A (eval e X.env) (EP X pins st Q) X.xe s
def cT (X : Cx) (e : Expr) : TT := fun st K Q => ∀ pins s, Inv X pins st K s → wpAny (model X.prog X.w) X.A (isTrue e X.env (eval e X.env)) (TP X pins st Q) X.xe s
def cW (X : Cx) (e : Expr) : TT := fun st K Q => ∀ whole pins s, Inv X pins st K s → wpAny (model X.prog X.w) X.A (isTrue e X.env whole) (TP X pins st Q) X.xe s
def cA (X : Cx) (es : List Expr) : TA := fun st K Q => ∀ pos pins s, Inv X pins st K s → wpAny (model X.prog X.w) X.A (spliced (backTo pos (starEach es X.env))) (AP X pins st Q) X.xe s
def cS (X : Cx) (e : Stmt) : TS := fun D st K => ∀ pins s, Inv X pins st K s → wpAny (model X.prog X.w) X.A (exec e X.env) (SP X pins D) X.xe s
def cB (X : Cx) (e : List Stmt) : TS := fun D st K => ∀ pins s, Inv X pins st K s → wpAny (model X.prog X.w) X.A (execs e X.env) (SP X pins D) X.xe s
def cO (X : Cx) (f : Value → Value → Sem Value) : R2 := fun x y K Q => ∀ pins s st v u, Inv X pins st K s → RelV x v → RelV y u → wpAny (model X.prog X.w) X.A (f v u) (EP X pins st Q) X.xe s
def cU (X : Cx) (f : Value → Sem Value) : V → Hp → VK → Prop := fun x K Q => ∀ pins s st v, Inv X pins st K s → RelV x v → wpAny (model X.prog X.w) X.A (f v) (EP X pins st Q) X.xe s
def cF (X : Cx) (f : Value) : List V → Hp → VK → Prop := fun xs K Q => ∀ pins s st us, Inv X pins st K s → Vals xs us → wpAny (model X.prog X.w) X.A (call f us) (EP X pins st Q) X.xe s
def cM (X : Cx) (id : String) : V → List V → Hp → VK → Prop := fun x xs K Q => ∀ pins s st v us, Inv X pins st K s → RelV x v → Vals xs us → wpAny (model X.prog X.w) X.A (call (.builtin id) (v :: us)) (EP X pins st Q) X.xe s
def cI (X : Cx) : R2 := fun x y K Q => ∀ value slice pins s st v u, Inv X pins st K s → RelV x v → RelV y u → subscripted slice false v u = operate [v, u] (getItem v u) → wpAny (model X.prog X.w) X.A (subscriptTail value slice v u) (EP X pins st Q) X.xe s
def cL (X : Cx) : V → Option Int → Option Int → Hp → VK → Prop := fun x lo hi K Q => ∀ pins s st v vl vu sl, Inv X pins st K s → RelV x v → s.heap.IsSliceOf sl vl vu .none → IsPart vl lo → IsPart vu hi →
    ∃ T id, typeLookup (.type T) "__getitem__" = pure (some (.builtin id)) ∧ s.TypeIs v T ∧ wpAny (model X.prog X.w) X.A (getItem v (.ref sl)) (EP X pins st Q) X.xe s
theorem cE_pe {e : Expr} : PE X e (cE X e) := ⟨fun pins s _ _ _ I h => h pins s I⟩
theorem cT_pt {e : Expr} : PT X e (cT X e) := ⟨fun pins s _ _ _ I h => h pins s I⟩
theorem cW_pw {e : Expr} : PW X e (cW X e) := ⟨fun w pins s _ _ _ I h => h w pins s I⟩
theorem cA_pa {e : List Expr} : PA X e (cA X e) := ⟨fun pos pins s _ _ _ I h => h pos pins s I⟩
theorem cS_ps {e : Stmt} : PS X e (cS X e) := ⟨fun pins s _ _ _ I h => h pins s I⟩
theorem cB_pss {e : List Stmt} : PSs X e (cB X e) := ⟨fun pins s _ _ _ I h => h pins s I⟩
theorem cO_or {f : Value → Value → Sem Value} : OpR X f (cO X f) := fun pins s st _ _ _ v u _ I r q h => h pins s st v u I r q
theorem cU_or {f : Value → Sem Value} : UnR X f (cU X f) := fun pins s st _ _ v _ I r h => h pins s st v I r
theorem cF_cr {f : Value} : CallR X f (cF X f) := fun pins s st _ _ us _ I r h => h pins s st us I r
theorem cI_ix : IxR X (cI X) := fun value slice pins s st _ _ _ v u _ I r q h hs => h value slice pins s st v u I r q hs
theorem cL_sl : SlR X (cL X) := fun pins s st _ _ v vl vu _ _ sl _ I r hs pl pu h => h pins s st v vl vu sl I r hs pl pu
variable {st : St} {K : Hp}
theorem cE_of {e : Expr} {t : TE} {Q : VK} (h : PE X e t) (q : t st K Q) : cE X e st K Q := fun pins s I => h.run pins s st K Q I q
theorem cT_of {e : Expr} {t : TT} {Q : Bool → Hp → Prop} (h : PT X e t) (q : t st K Q) : cT X e st K Q := fun pins s I => h.run pins s st K Q I q
theorem cW_of {e : Expr} {t : TT} {Q : Bool → Hp → Prop} (h : PW X e t) (q : t st K Q) : cW X e st K Q := fun w pins s I => h.run w pins s st K Q I q
theorem cA_of {e : List Expr} {t : TA} {Q : List V → Hp → Prop} (h : PA X e t) (q : t st K Q) : cA X e st K Q := fun pos pins s I => h.run pos pins s st K Q I q
theorem cS_of {e : Stmt} {t : TS} {D : Ends} (h : PS X e t) (q : t D st K) : cS X e D st K := fun pins s I => h.run pins s st K D I q
theorem cB_of {e : List Stmt} {t : TS} {D : Ends} (h : PSs X e t) (q : t D st K) : cB X e D st K := fun pins s I => h.run pins s st K D I q
theorem cO_of {f : Value → Value → Sem Value} {r : R2} {x y : V} {Q : VK} (h : OpR X f r) (q : r x y K Q) : cO X f x y K Q := fun pins s st v u I a b => h pins s st K x y v u Q I a b q
theorem cU_of {f : Value → Sem Value} {r : V → Hp → VK → Prop} {x : V} {Q : VK} (h : UnR X f r) (q : r x K Q) : cU X f x K Q := fun pins s st v I a => h pins s st K x v Q I a q
theorem cF_of {f : Value} {r : List V → Hp → VK → Prop} {xs : List V} {Q : VK} (h : CallR X f r) (q : r xs K Q) : cF X f xs K Q := fun pins s st us I a => h pins s st K xs us Q I a q
theorem cM_of {id : String} {r : V → List V → Hp → VK → Prop} {x : V} {xs : List V} {Q : VK} (h : MtR X id r) (q : r x xs K Q) : cM X id x xs K Q := fun pins s st v us I a b => h pins s st K x xs v us Q I a b q
theorem cI_of {r : R2} {x y : V} {Q : VK} (h : IxR X r) (q : r x y K Q) : cI X x y K Q := fun value slice pins s st v u I a b hs => h value slice pins s st K x y v u Q I a b q hs
theorem cL_of {r : V → Option Int → Option Int → Hp → VK → Prop} {x : V} {lo hi : Option Int} {Q : VK} (h : SlR X r) (q : r x lo hi K Q) : cL X x lo hi K Q := fun pins s st v vl vu sl I a hs pl pu => h pins s st K x v vl vu lo hi sl Q I a hs pl pu q
end

/-! ### two heaps -/
/-- what is known for good stands (a dict may be walked meanwhile) -/
def Rdd (K : Hp) (a : Addr) (o : HO) : Prop := K a = some o ∨ ∃ kvs ob, o = .dK kvs ∧ K a = some (.frz ob (.dK kvs))
def Le (H K : Hp) : Prop := ∀ a o, H a = some o → Rdd K a o
theorem Same.le {H H' K : Hp} (h : Same H H') (l : Le H' K) : Le H K := fun a o e => l a o (h a o e)
theorem Rdd.rd {K : Hp} {a : Addr} {o : HO} (h : Rdd K a o) : Rd K a o := by
  rcases h with h | ⟨kvs, ob, rfl, h⟩
  · exact .inl h
  · exact .inr ⟨ob, h⟩
theorem Le.none {H K : Hp} (l : Le H K) {a : Addr} (h : K a = .none) : H a = .none := by
  cases e : H a with
  | none => rfl
  | some o =>
    rcases l a o e with q | ⟨_, _, _, q⟩
    · rw [h] at q; cases q
    · rw [h] at q; cases q
/-- exact where it is no dict -/
theorem Le.get {H K : Hp} (l : Le H K) {a : Addr} {o : HO} (h : H a = some o) (nd : ∀ kvs, o ≠ .dK kvs) : K a = some o := by
  rcases l a o h with q | ⟨kvs, _, e, _⟩
  · exact q
  · exact absurd e (nd kvs)
/-- a mode: the objects S that may change, what R is true of them -/
structure Md where
  S : Addr → Prop
  R : Hp → Hp → Prop
  loc : ∀ H K K', (∀ a, S a → K' a = K a) → R H K → R H K'
  mono : ∀ H H' K, Same H H' → R H K → R H' K
  dom : ∀ H K a, R H K → S a → K a ≠ none
structure J (M : Md) (H K : Hp) : Prop where
  le : Le H K
  off : ∀ a, M.S a → H a = none
  r : M.R H K
structure Go (M M' : Md) (H K H' K' : Hp) : Prop where
  j : J M' H' K'
  b : Same H H'
  k : ∀ a o, ¬ M.S a → K a = some o → K' a = some o
  f : ∀ a, H a = none → H' a ≠ none → K a = none
  d : ∀ a, K a ≠ none → K' a ≠ none
  s : M'.S = M.S
theorem Go.refl {M : Md} {H K : Hp} (j : J M H K) : Go M M H K H K := ⟨j, Same.refl H, fun _ _ _ h => h, fun _ h n => absurd h n, fun _ h => h, rfl⟩
theorem Go.trans {M M1 M2 : Md} {H K H1 K1 H2 K2 : Hp} (g : Go M M1 H K H1 K1) (g2 : Go M1 M2 H1 K1 H2 K2) : Go M M2 H K H2 K2 where
  j := g2.j
  b := g.b.trans g2.b
  k := fun a o n h => g2.k a o (by rw [g.s]; exact n) (g.k a o n h)
  f := fun a h n => by
    by_cases h1 : H1 a = none
    · have := g2.f a h1 n
      cases e : K a with
      | none => rfl
      | some o => exact absurd this (g.d a (by rw [e]; intro z; cases z))
    · exact g.f a h h1
  d := fun a h => g2.d a (g.d a h)
  s := g2.s.trans g.s
/-- an object of one's own: not known for good, it may still change -/
structure Own (M : Md) (H K : Hp) (p : Addr) (u : HO) : Prop where
  ns : ¬ M.S p
  h : H p = none
  k : K p = some u
theorem Go.own {M M' : Md} {H K H' K' : Hp} (g : Go M M' H K H' K') {p : Addr} {u : HO} (o : Own M H K p u) : Own M' H' K' p u := by
  refine ⟨by rw [g.s]; exact o.ns, ?_, g.k p u o.ns o.k⟩
  cases e : H' p with
  | none => rfl
  | some w =>
    have := g.f p o.h (by rw [e]; intro z; cases z)
    rw [o.k] at this; cases this
theorem J.fresh {M : Md} {H K : Hp} (j : J M H K) {p : Addr} (h : K p = none) : H p = none := j.le.none h
theorem J.nS {M : Md} {H K : Hp} (j : J M H K) {p : Addr} (h : K p = none) : ¬ M.S p := fun s => M.dom H K p j.r s h
theorem same_upd {H : Hp} {p : Addr} {o : HO} (h : H p = none) : Same H (upd H p o) := fun a u e => by
  rw [upd_ne (ne_of_none e h)]
  exact e
/-- a new object, known for good -/
theorem Go.new {M : Md} {H K : Hp} (j : J M H K) {p : Addr} {o : HO} (h : K p = none) : Go M M H K (upd H p o) (upd K p o) where
  j := {
    le := fun a u e => by
      by_cases q : a = p
      · subst q
        rw [upd_same] at e
        cases e
        exact .inl upd_same
      · rw [upd_ne q] at e
        unfold Rdd
        rw [upd_ne q]
        exact j.le a u e
    off := fun a s => by
      have q : a ≠ p := fun z => M.dom H K a j.r s (by rw [z]; exact h)
      rw [upd_ne q]
      exact j.off a s
    r := M.mono H _ _ (same_upd (j.fresh h)) (M.loc H K _ (fun a s => by
      have q : a ≠ p := fun z => M.dom H K a j.r s (by rw [z]; exact h)
      rw [upd_ne q]) j.r) }
  b := same_upd (j.fresh h)
  k := fun a u _ e => by rw [upd_ne (ne_of_none e h)]; exact e
  f := fun a e n => by
    by_cases q : a = p
    · rw [q]; exact h
    · rw [upd_ne q] at n; exact absurd e n
  d := fun a n => by
    by_cases q : a = p
    · rw [q, upd_same]; intro z; cases z
    · rw [upd_ne q]; exact n
  s := rfl
theorem Own.new {M : Md} {H K : Hp} (j : J M H K) {p : Addr} {o : HO} (h : K p = none) : Own M H (upd K p o) p o := ⟨j.nS h, j.fresh h, upd_same⟩
theorem Own.set {M : Md} {H K : Hp} {p : Addr} {o u : HO} (w : Own M H K p u) : Own M H (upd K p o) p o := ⟨w.ns, w.h, upd_same⟩
theorem Own.other {M : Md} {H K : Hp} {p q : Addr} {o u : HO} (w : Own M H K p u) (n : p ≠ q) : Own M H (upd K q o) p u := ⟨w.ns, w.h, by rw [upd_ne n]; exact w.k⟩
/-- it is known for good from now on -/
theorem J.keep {M : Md} {H K : Hp} (j : J M H K) {p : Addr} {u : HO} (w : Own M H K p u) : J M (upd H p u) K where
  le := fun a v e => by
    by_cases q : a = p
    · subst q
      rw [upd_same] at e
      cases e
      exact .inl w.k
    · rw [upd_ne q] at e
      exact j.le a v e
  off := fun a s => by
    have q : a ≠ p := fun z => w.ns (by rw [← z]; exact s)
    rw [upd_ne q]
    exact j.off a s
  r := M.mono H _ _ (same_upd w.h) j.r
theorem Go.keep {M0 M : Md} {H0 K0 H K : Hp} (g : Go M0 M H0 K0 H K) {p : Addr} {u : HO} (n0 : K0 p = none) (w : Own M H K p u) : Go M0 M H0 K0 (upd H p u) K where
  j := g.j.keep w
  b := g.b.trans (same_upd w.h)
  k := g.k
  f := fun a e n => by
    by_cases q : a = p
    · rw [q]; exact n0
    · rw [upd_ne q] at n; exact g.f a e n
  d := g.d
  s := g.s
theorem Own.stay {M : Md} {H K : Hp} {p q : Addr} {o u : HO} (w : Own M H K p u) (n : p ≠ q) : Own M (upd H q o) K p u := ⟨w.ns, by rw [upd_ne n]; exact w.h, w.k⟩
theorem Own.ne {M : Md} {H K : Hp} {p q : Addr} {o u : HO} (w : Own M H K p u) (w' : Own M H K q o) (d : u ≠ o) : p ≠ q := fun e => by
  subst e
  have := w.k.symm.trans w'.k
  exact d (Option.some.inj this)

/-! ### the context -/
structure Ct where
  P : Program
  w : World
  K : PySem.W.Frag
  mg : Str → Option Value
  base : Heap
  N : List Str
  sc : Scope
  k : Nat
  Wx : WX
  fa : Bool
inductive Con : Ct → Cx → Prop
  | mk (X : Cx) (k : Nat) (Wx : WX) (fa : Bool) (hr : Room k X.A) (hc : X.calm = true) (hp : PassesOwn (model X.prog X.w) X.A X.env X.xe) (ht : Takes X Wx) (hf : fa = true → ∀ x, X.fn x = true) (hN : X.N.Nodup) (hG : X.A.guards = some []) :
    Con ⟨X.prog, X.w, X.K, X.mg, X.base, X.N, X.env.scope, k, Wx, fa⟩ X
abbrev GlS (c : Ct) (x : Str) : Prop := c.sc.names.lookup x = some .globalImplicit
class Mono (P : VK) : Prop where
  mono : ∀ v H H', Same H H' → P v H → P v H'
abbrev Is (c : V) : VK := fun v _ => v = c
instance : Mono (Is c) := ⟨fun _ _ _ _ h => h⟩
/-- a list, a tuple of these -/
def IsL (xs : List V) : VK := fun v H => ∃ p, v = .ref p ∧ H p = some (.lst xs)
def IsT (xs : List V) : VK := fun v H => ∃ p, v = .ref p ∧ H p = some (.tup xs)
def IsD (kvs : List (Key × V)) : VK := fun v H => ∃ p, v = .ref p ∧ H p = some (.dK kvs)
theorem Le.lst {H K : Hp} (l : Le H K) {a : Addr} {xs : List V} (h : H a = some (.lst xs)) : K a = some (.lst xs) := l.get h (fun _ q => nomatch q)
theorem Le.tup {H K : Hp} (l : Le H K) {a : Addr} {xs : List V} (h : H a = some (.tup xs)) : K a = some (.tup xs) := l.get h (fun _ q => nomatch q)
/-- an int of which f is true -/
def Nt (f : Int → Prop) : VK := fun v _ => ∃ i, v = .int i ∧ f i
def St1 (f : Str → Prop) : VK := fun v _ => ∃ i, v = .str i ∧ f i
theorem same_sql {F : PySem.W.Frag} {H K : Hp} {a : Addr} {xs : List V} (l : Same H K) (h : SqL F H a xs) : SqL F K a xs := l.seq h
theorem same_sqt {F : PySem.W.Frag} {H K : Hp} {a : Addr} {xs : List V} (l : Same H K) (h : SqT F H a xs) : SqT F K a xs := by
  rcases h with (h | ⟨o, h⟩) | h
  · exact .inl (.inl (l _ _ h))
  · exact .inl (.inr ⟨o, l _ _ h⟩)
  · exact .inr h
instance {xs : List V} : Mono (IsL xs) := ⟨fun _ _ _ s ⟨p, e, h⟩ => ⟨p, e, s _ _ h⟩⟩
instance {xs : List V} : Mono (IsT xs) := ⟨fun _ _ _ s ⟨p, e, h⟩ => ⟨p, e, s _ _ h⟩⟩
instance {kvs : List (Key × V)} : Mono (IsD kvs) := ⟨fun _ _ _ s ⟨p, e, h⟩ => ⟨p, e, s _ _ h⟩⟩
instance {f : Int → Prop} : Mono (Nt f) := ⟨fun _ _ _ _ h => h⟩
instance {f : Str → Prop} : Mono (St1 f) := ⟨fun _ _ _ _ h => h⟩

/-! ### what evaluates to what -/
/-- e evaluates to a v of which P is true, from the mode M to the mode M'; or an error leaves, of which W is true -/
structure Ev (c : Ct) (M M' : Md) (e : Expr) (st : St) (H : Hp) (P : VK) (W : XK) : Prop where
  run : ∀ X, Con c X → ∀ K, J M H K → ∀ Q : VK, (∀ v H' K', Go M M' H K H' K' → P v H' → Q v K') → (∀ Mx cls d H' K', Go M Mx H K H' K' → W cls d H' → c.Wx cls d st K') → cE X e st K Q
structure EvT (c : Ct) (M M' : Md) (e : Expr) (st : St) (H : Hp) (P : Bool → Hp → Prop) (W : XK) : Prop where
  run : ∀ X, Con c X → ∀ K, J M H K → ∀ Q : Bool → Hp → Prop, (∀ v H' K', Go M M' H K H' K' → P v H' → Q v K') → (∀ Mx cls d H' K', Go M Mx H K H' K' → W cls d H' → c.Wx cls d st K') → cT X e st K Q
structure EvW (c : Ct) (M M' : Md) (e : Expr) (st : St) (H : Hp) (P : Bool → Hp → Prop) (W : XK) : Prop where
  run : ∀ X, Con c X → ∀ K, J M H K → ∀ Q : Bool → Hp → Prop, (∀ v H' K', Go M M' H K H' K' → P v H' → Q v K') → (∀ Mx cls d H' K', Go M Mx H K H' K' → W cls d H' → c.Wx cls d st K') → cW X e st K Q
structure EvA (c : Ct) (M M' : Md) (es : List Expr) (st : St) (H : Hp) (P : List V → Hp → Prop) (W : XK) : Prop where
  run : ∀ X, Con c X → ∀ K, J M H K → ∀ Q : List V → Hp → Prop, (∀ v H' K', Go M M' H K H' K' → P v H' → Q v K') → (∀ Mx cls d H' K', Go M Mx H K H' K' → W cls d H' → c.Wx cls d st K') → cA X es st K Q
/-- an operation by values -/
structure Op2 (c : Ct) (M : Md) (f : Value → Value → Sem Value) (x y : V) (H : Hp) (P : VK) : Prop where
  run : ∀ X, Con c X → ∀ K, J M H K → ∀ Q : VK, (∀ v H' K', Go M M H K H' K' → P v H' → Q v K') → cO X f x y K Q
structure Op1 (c : Ct) (M : Md) (f : Value → Sem Value) (x : V) (H : Hp) (P : VK) : Prop where
  run : ∀ X, Con c X → ∀ K, J M H K → ∀ Q : VK, (∀ v H' K', Go M M H K H' K' → P v H' → Q v K') → cU X f x K Q
structure OpI (c : Ct) (M : Md) (x y : V) (H : Hp) (P : VK) : Prop where
  run : ∀ X, Con c X → ∀ K, J M H K → ∀ Q : VK, (∀ v H' K', Go M M H K H' K' → P v H' → Q v K') → cI X x y K Q
structure OpL (c : Ct) (M : Md) (x : V) (lo hi : Option Int) (H : Hp) (P : VK) : Prop where
  run : ∀ X, Con c X → ∀ K, J M H K → ∀ Q : VK, (∀ v H' K', Go M M H K H' K' → P v H' → Q v K') → cL X x lo hi K Q
/-- a call by values -/
structure OpF (c : Ct) (M : Md) (f : Value) (xs : List V) (H : Hp) (P : VK) : Prop where
  run : ∀ X, Con c X → ∀ K, J M H K → ∀ Q : VK, (∀ v H' K', Go M M H K H' K' → P v H' → Q v K') → cF X f xs K Q
structure OpM (c : Ct) (M : Md) (id : String) (x : V) (xs : List V) (H : Hp) (P : VK) : Prop where
  run : ∀ X, Con c X → ∀ K, J M H K → ∀ Q : VK, (∀ v H' K', Go M M H K H' K' → P v H' → Q v K') → cM X id x xs K Q
section
variable {c : Ct} {M M1 M2 M3 : Md} {st : St} {H : Hp} {P P1 P2 P3 : VK} {W : XK} {e a b t : Expr} {es : List Expr} {pos : Pos} {v : V}
theorem Ev.imp (h : Ev c M M1 e st H P W) (k : ∀ v H', Same H H' → P v H' → P1 v H') : Ev c M M1 e st H P1 W := .mk fun X hX K j Q q x => h.run X hX K j Q (fun v H' K' g p => q v H' K' g (k v H' g.b p)) x
theorem EvT.imp {P P1 : Bool → Hp → Prop} (h : EvT c M M1 e st H P W) (k : ∀ v H', Same H H' → P v H' → P1 v H') : EvT c M M1 e st H P1 W := .mk fun X hX K j Q q x => h.run X hX K j Q (fun v H' K' g p => q v H' K' g (k v H' g.b p)) x
theorem EvA.imp {P P1 : List V → Hp → Prop} (h : EvA c M M1 es st H P W) (k : ∀ v H', Same H H' → P v H' → P1 v H') : EvA c M M1 es st H P1 W := .mk fun X hX K j Q q x => h.run X hX K j Q (fun v H' K' g p => q v H' K' g (k v H' g.b p)) x
theorem Ev.to (h : Ev c M M1 e st H P W) (k : P = P1) : Ev c M M1 e st H P1 W := k ▸ h
theorem Op2.imp {f : Value → Value → Sem Value} {x y : V} (h : Op2 c M f x y H P) (k : ∀ v H', Same H H' → P v H' → P1 v H') : Op2 c M f x y H P1 := .mk fun X hX K j Q q => h.run X hX K j Q fun v H' K' g p => q v H' K' g (k v H' g.b p)

/-! names and constants -/
/-! operators -/
/-! arguments -/
end
end Z

namespace Z
open PySem PySem.Spec PyProof.Rows L2
/-- a def's promise where no text is being shown around it -/
structure FnG (P : Program) (w : World) (F : PySem.W.Frag) (mg : Str → Option Value) (base : Heap) (k : Nat) (f : Addr) (fd : FuncData) (ps : List Str) (sp : Sp) : Prop where
  len : ∀ vs K Q E, sp vs K Q E → vs.length = ps.length
  run : ∀ A : Around, Room k A → A.guards = some [] → ∀ outer s K, Env0 P w F mg base A outer s K → ∀ args us vs, Vals vs us → BindsTo s fd args (ps.zip us) → ∀ Q E, sp vs K Q E →
    codeAny (model P w) A (.call (.ref f) args) (CR (L2.CX P w) outer P w K s Q E) s
section
variable {P : Program} {w : World} {F : PySem.W.Frag} {mg : Str → Option Value} {base : Heap} {k : Nat} {f : Addr} {fd : FuncData} {ps N : List Str} {sp : Sp}
theorem bind_kinds {ps : List Str} {us : List Value} {sc : Scope} {n : Nat} (S : FnScope N ps sc) : ∀ y ∈ ps.zip us, sc.names.lookup y.1 = some .local ∨ (sc.names.lookup y.1 = some .cell ∧ ((cellsFrom n sc.names []).lookup y.1).isSome = true) := by
  intro y hy
  obtain ⟨a, b⟩ := y
  have ha := (List.of_mem_zip hy).1
  cases S.par a ha with
  | inl q => exact .inl q
  | inr q => exact .inr ⟨q, PySem.W.cellsFrom_some _ _ _ (.inl q)⟩
end
/-- the call -/
theorem runG {X : Cx} {W : WX} {k : Nat} {f : Addr} {fd : FuncData} {ps : List Str} {sp : Sp} {pins : List (Addr × Obj)} {st : L2.St} {K : Hp} {s : Shared} {Q : VK} {us : List Value} {vs : List V}
    (F : FnG X.prog X.w X.K X.mg X.base k f fd ps sp) (hr : Room k X.A) (hG : X.A.guards = some []) (tk : Takes X W) (bs : Binds X.K fd ps []) (I : Inv X pins st K s) (r : Vals vs us) (h : sp vs K Q (WE W st)) :
    wpAny (model X.prog X.w) X.A (call (.ref f) us) (EP X pins st Q) X.xe s := by
  have hl : (us ++ ([] : List Value)).length = ps.length := by
    rw [List.append_nil, ← r.length]
    exact F.len _ _ _ _ h
  have b := bs s us I.kIn hl
  rw [List.append_nil] at b
  refine wpAny_call (codeAny_mono (F.run X.A hr hG X.stack s K I.env0 ⟨us, []⟩ us vs r b Q _ h) fun res s2 z => ?_)
  match res, z with
  | .error e, z => exact passAt tk st pins K s e s2 I z
  | .ok (.ret u), z => exact I.after z
  | .ok .next, z => exact z.elim
  | .ok .brk, z => exact z.elim
  | .ok .cont, z => exact z.elim
end Z

namespace Z
open PySem L2
open PyProof.Rows (subscriptTail)

abbrev IsB (b : Bool) : Bool → Hp → Prop := fun x _ => x = b
/-- a weaker mode -/
structure Md.Le (M M' : Md) : Prop where
  s : M'.S = M.S
  r : ∀ H K, M.R H K → M'.R H K
theorem Md.Le.refl (M : Md) : Md.Le M M := ⟨rfl, fun _ _ h => h⟩
theorem Md.Le.go {M M' : Md} (l : Md.Le M M') {H K : Hp} (j : J M H K) : Go M M' H K H K :=
  ⟨⟨j.le, fun a s => j.off a (by rw [← l.s]; exact s), l.r _ _ j.r⟩, Same.refl H, fun _ _ _ h => h, fun _ h n => absurd h n, fun _ h => h, l.s⟩

section
variable {c : Ct} {M M1 M2 M3 : Md} {st : St} {H : Hp} {P P1 P2 P3 : VK} {W : XK} {e a b t : Expr} {es rest : List Expr} {pos : Pos} {v : V} {B B1 B2 : Bool → Hp → Prop}
theorem Ev.weak (l : Md.Le M1 M2) (h : Ev c M M1 e st H P W) : Ev c M M2 e st H P W := .mk fun X hX K j Q q x => h.run X hX K j Q (fun v H' K' g p => q v H' K' (g.trans (l.go g.j)) p) x
theorem EvT.weak (l : Md.Le M1 M2) (h : EvT c M M1 e st H B W) : EvT c M M2 e st H B W := .mk fun X hX K j Q q x => h.run X hX K j Q (fun v H' K' g p => q v H' K' (g.trans (l.go g.j)) p) x

/-! tests -/
/-! and, or as values -/
/-! lists, tuples written -/
/-! calls -/
end

/-! ### what is walked -/
def cP (X : Cx) (tg iter : Expr) : TI := fun st K R => ∀ pins s, Inv X pins st K s → wpAny (model X.prog X.w) X.A (eval iter X.env) (fun v s1 => wpAny (model X.prog X.w) X.A (pyIter v) (PIE X pins st tg R) X.xe s1) X.xe s
theorem cP_pi {X : Cx} {tg iter : Expr} : PI X tg iter (cP X tg iter) := ⟨fun pins s _ _ _ I h => h pins s I⟩
theorem cP_of {X : Cx} {tg iter : Expr} {t : TI} {st : St} {K : Hp} {R : It → Hp → Prop} (h : PI X tg iter t) (q : t st K R) : cP X tg iter st K R := fun pins s I => h.run pins s st K R I q
/-- iter is walked: n items, the i-th is a v of which Y i is true -/
structure EvI (c : Ct) (M M' : Md) (tg iter : Expr) (st : St) (H : Hp) (n : Nat) (Y : Nat → VK) (W : XK) : Prop where
  run : ∀ X, Con c X → ∀ K, J M H K → ∀ R : It → Hp → Prop, (∀ Jt G Yh H1 K1, Go M M' H K H1 K1 → Walk Jt n G Yh → (∀ H' K', Same H1 H' → Le H' K' → G K') → (∀ i x H' K' K'', i < n → Same H1 H' → Yh i K' x K'' → K'' = K' ∧ Y i x H') → R Jt K1) →
    (∀ Mx cls d H' K', Go M Mx H K H' K' → W cls d H' → c.Wx cls d st K') → cP X tg iter st K R
/-- the items are new pairs -/
structure EvI2 (c : Ct) (M M' : Md) (tg iter : Expr) (st : St) (H : Hp) (n : Nat) (Y Z : Nat → VK) (W : XK) : Prop where
  run : ∀ X, Con c X → ∀ K, J M H K → ∀ R : It → Hp → Prop, (∀ Jt G Yh H1 K1, Go M M' H K H1 K1 → Walk Jt n G Yh → (∀ H' K', Same H1 H' → Le H' K' → G K') →
    (∀ i x H' K' K'', i < n → Same H1 H' → Yh i K' x K'' → ∃ T y z, x = .ref T ∧ K' T = none ∧ K'' = upd K' T (.tup [y, z]) ∧ Y i y H' ∧ Z i z H') → R Jt K1) →
    (∀ Mx cls d H' K', Go M Mx H K H' K' → W cls d H' → c.Wx cls d st K') → cP X tg iter st K R
section
variable {c : Ct} {M M1 M2 M3 : Md} {st : St} {H : Hp} {P P1 P2 P3 : VK} {W : XK} {tg e a b t : Expr} {es rest : List Expr} {pos : Pos} {v : V}
end
end Z

namespace Z
open PySem L2
open PyProof.Rows (subscriptTail)

/-- the context of a comprehension's block -/
abbrev Ct.blk (c : Ct) (scope : Scope) : Ct := ⟨c.P, c.w, c.K, c.mg, c.base, c.N, relS scope c.sc, c.k, fun _ _ _ _ => False, false⟩
theorem con_blk {X : Cx} {k : Nat} {Wx : WX} {fa : Bool} {scope : Scope} (hr : Room k X.A) (hc : X.calm = true) (hN : X.N.Nodup) (hU : X.A.guards = some []) (s0 : Shared) (H0 : Hp) (C : Addr) (cl : List (Str × Addr)) (fp : List Addr) :
    Con (Ct.blk ⟨X.prog, X.w, X.K, X.mg, X.base, X.N, X.env.scope, k, Wx, fa⟩ scope) (X.blk s0 H0 scope (compEnvC scope cl C X.env) fp) :=
  Con.mk (X.blk s0 H0 scope (compEnvC scope cl C X.env) fp) k (fun _ _ _ _ => False) false hr hc PassesOwn.never takes0 (fun z => nomatch z) hN hU
def cTs (X : Cx) (ifs : List Expr) : TT := fun st K Q => ∀ pins s, Inv X pins st K s → wpAny (model X.prog X.w) X.A (forIn ifs true fun c r => if r = true then do let ok ← isTrue c X.env (eval c X.env); pure (ForInStep.yield ok) else pure (ForInStep.yield r)) (TP X pins st Q) X.xe s
theorem cTs_of {X : Cx} {ifs : List Expr} {t : TT} {st : St} {K : Hp} {Q : Bool → Hp → Prop} (h : PTs X ifs t) (q : t st K Q) : cTs X ifs st K Q := fun pins s I => h.run pins s st K Q I q
structure EvTs (c : Ct) (M M' : Md) (ifs : List Expr) (st : St) (H : Hp) (P : Bool → Hp → Prop) (W : XK) : Prop where
  run : ∀ X, Con c X → ∀ K, J M H K → ∀ Q : Bool → Hp → Prop, (∀ v H' K', Go M M' H K H' K' → P v H' → Q v K') → (∀ Mx cls d H' K', Go M Mx H K H' K' → W cls d H' → c.Wx cls d st K') → cTs X ifs st K Q
section
variable {c : Ct} {M M1 M2 : Md} {st : St} {H : Hp} {B : Bool → Hp → Prop} {W : XK} {e : Expr}
end

/-- one name, two names as the target of a comprehension or a loop -/
def IsN (c : Ct) (tg : Expr) (j : Nat) : Prop := ∃ x pos, tg = .Name x pos ∧ c.N[j]? = some x ∧ Loc c.sc x ∧ (c.fa = true ∨ c.sc.names.lookup x = some .local)
theorem isN_pg {c : Ct} {tg : Expr} {j : Nat} {X : Cx} (h : IsN c tg j) (hX : Con c X) : PG X tg (gName j) := by
  obtain ⟨x, pos, rfl, h1, h2, h3⟩ := h
  cases hX with
  | mk _ k' Wx fa hr hc hp' ht hf hN hU =>
    refine pg_name hN h1 h2 ?_
    rcases h3 with h3 | h3
    · exact .inl (hf h3 x)
    · exact .inr h3
section
variable {c : Ct} {M M1 : Md} {Mi : Nat → Md} {st : St} {H : Hp} {W : XK} {tg iter elt kx vx : Expr} {ifs : List Expr} {scope : Scope} {pos : Pos} {n : Nat} {Y Y2 : Nat → VK} {own : List (Str × Nat)}
/-- a dict comprehension over a walk (as lc_it) -/
theorem dc_it {J : It} {n : Nat} {G : Hp → Prop} {Yh : Nat → Hp → V → Hp → Prop} (w : Walk J n G Yh) {g : TG} {tt : TT} {tk tv : TE} {vs : List Nat} {σ : St} {H1 : Hp} {D : Addr} {Qd : Hp → Prop} (Pv : Nat → Hp → Prop) (h0 : Pv 0 (upd H1 D (.dK []))) (hG : ∀ i H, i ≤ n → Pv i H → G H)
    (hs : ∀ i x H H', i < n → Pv i H → Yh i H x H' → g x (wipe σ vs) H' fun σ2 H2 => wipe σ2 vs = wipe σ vs ∧ tt σ2 H2 fun b H3 =>
      if b = true then tk σ2 H3 fun y H4 => tv σ2 H4 fun z H5 => ∃ kvs k, y = kV k ∧ H5 D = some (.dK kvs) ∧ kvs.length < sizeLine ∧ Pv (i + 1) (upd H5 D (.dK (putK kvs k z))) else Pv (i + 1) H3) (hd : ∀ H, Pv n H → Qd H) :
    ∃ W : Nat → Nat → Hp → Prop, (∃ m, W 0 m (upd H1 D (.dK []))) ∧ ∀ i m H, W i m H →
      (J.stop i H ∧ Qd H) ∨ (J.go i H ∧ ∃ Nx : Hp → Prop, (∀ H', Nx H' → ∃ m', m' < m ∧ W (i + 1) m' H') ∧ ∀ x H', J.yld i H x H' → g x (wipe σ vs) H' fun σ2 H2 => wipe σ2 vs = wipe σ vs ∧ tt σ2 H2 fun b H3 =>
        if b = true then tk σ2 H3 fun y H4 => tv σ2 H4 fun z H5 => ∃ kvs k, y = kV k ∧ H5 D = some (.dK kvs) ∧ kvs.length < sizeLine ∧ Nx (upd H5 D (.dK (putK kvs k z))) else Nx H3) := by
  refine ⟨fun i m H => m = n - i ∧ i ≤ n ∧ Pv i H, ⟨n, by simp, Nat.zero_le _, h0⟩, ?_⟩
  rintro i m H ⟨rfl, hi, p⟩
  have q := hG i H hi p
  by_cases hlt : i < n
  · refine .inr ⟨w.goes i H hlt q, Pv (i + 1), fun H' p' => ⟨n - (i + 1), by omega, rfl, hlt, p'⟩, fun x H' y => hs i x H H' hlt p (w.yields i H x H' hlt q y)⟩
  · have e : i = n := by omega
    subst e
    exact .inl ⟨w.stops H q, hd H p⟩
end
end Z

namespace Z
open PySem L2
open PyProof.Rows (subscriptTail)

section
variable {c : Ct} {M M1 M2 : Md} {Mi : Nat → Md} {st : St} {H : Hp} {W : XK} {P : VK} {tg iter elt kx vx : Expr} {ifs : List Expr} {scope : Scope} {pos : Pos} {n : Nat} {Y Y2 : Nat → VK} {own : List (Str × Nat)}

end

/-! ### statements -/
section
variable {c : Ct} {X : Cx} {M0 M M1 M2 : Md} {Mi : Nat → Md} {H0 K0 H K : Hp} {st : St} {D : Ends} {W : XK} {P : VK} {e a b tg iter elt kx vx : Expr} {ifs : List Expr} {scope : Scope} {pos p1 : Pos} {n : Nat} {Y Y2 : Nat → VK} {own : List (Str × Nat)} {s : Stmt} {r b1 b2 : List Stmt} {x : Str}
theorem b_cons (h : cS X s { D with nx := cB X r D } st K) : cB X (s :: r) D st K := cB_of (pss_cons cS_ps cB_pss) h
theorem b_nil (h : D.nx st K) : cB X [] D st K := cB_of pss_nil h
/-- a name that is stored -/
def StoreN (c : Ct) (x : Str) (i : Nat) : Prop := c.N[i]? = some x ∧ Loc c.sc x ∧ (c.fa = true ∨ c.sc.names.lookup x = some .local)
end
end Z

namespace Z
open PySem L2
open PyProof.Rows (subscriptTail)
section
variable {c : Ct} {X : Cx} {M0 M M1 M2 : Md} {Mi : Nat → Md} {H0 K0 H K : Hp} {st : St} {D : Ends} {W : XK} {P : VK} {e a b tg iter elt kx vx : Expr} {ifs : List Expr} {scope : Scope} {pos p1 : Pos} {n : Nat} {Y Y2 : Nat → VK} {own : List (Str × Nat)} {s : Stmt} {r b1 b2 body : List Stmt} {x : Str}
end

/-! ### a def -/
section
variable {P : Program} {w : World} {F : PySem.W.Frag} {mg : Str → Option Value} {base : Heap}
end
end Z

namespace Z
open PySem L2 SX
open PyProof.Rows (subscriptTail)

section
variable {c : Ct} {M : Md} {H : Hp} {P : VK} {i j : Int} {a b l : List Nat} {x y : V} {xs ys : List V} {p q : Addr}

/-! ### ints -/
/-! ### ==, !=, is -/
theorem dec_I : decide (V.int i = V.int j) = decide (i = j) := decide_eq_decide.mpr ⟨fun h => V.int.inj h, fun h => by rw [h]⟩
theorem dec_S : decide (V.str (S a) = V.str (S b)) = decide (a = b) := decide_eq_decide.mpr ⟨fun h => S_inj (V.str.inj h), fun h => by rw [h]⟩
/-! ### texts -/
theorem mul_S {n : Int} : Txt.mul (S a) n = S (List.replicate n.toNat a).flatten := by
  have f0 : ∀ (m : Nat) (acc : Array Nat), (List.replicate m (S a).cps).foldl (· ++ ·) acc = (acc.toList ++ (List.replicate m a).flatten).toArray := by
    intro m
    induction m with
    | zero => intro acc; simp
    | succ m ih => intro acc; rw [List.replicate_succ, List.foldl_cons, ih]; simp [List.replicate_succ, S]
  unfold Txt.mul
  by_cases h1 : n < 1
  · rw [if_pos h1, show n.toNat = 0 by omega]
    rfl
  · rw [if_neg h1]
    by_cases h2 : (n == 1 || (S a).length == 0) = true
    · rw [if_pos h2]
      rw [Bool.or_eq_true] at h2
      rcases h2 with h2 | h2
      · have : n = 1 := by simpa using h2
        subst this
        simp [S]
      · rw [S_len] at h2
        have : a = [] := by simpa using h2
        subst this
        simp [S]
    · rw [if_neg h2, f0]
      simp [S]
/-! ### lists -/
/-! ### subscripts, slices -/
/-- a[lo:hi] of a text's codes -/
def cutN (a : List Nat) (lo hi : Option Int) : List Nat := (a.drop (HT.sIx a.length 0 lo)).take (HT.sIx a.length a.length hi - HT.sIx a.length 0 lo)
theorem cutS_S {lo hi : Option Int} : cutS (S a) lo hi = S (cutN a lo hi) := by
  unfold cutS cutN
  rw [S_len]
/-! ### built-in functions -/
/-- what a value's class is -/
inductive TyZ (F : PySem.W.Frag) (H : Hp) : V → String → Prop
  | non : TyZ F H .non "NoneType"
  | bl (b : Bool) : TyZ F H (.bl b) "bool"
  | int (i : Int) : TyZ F H (.int i) "int"
  | str (x : Str) : TyZ F H (.str x) "str"
  | lst {a : Addr} {xs : List V} (e : H a = some (.lst xs)) : TyZ F H (.ref a) "list"
  | tup {a : Addr} {xs : List V} (e : H a = some (.tup xs)) : TyZ F H (.ref a) "tuple"
  | dK {a : Addr} {kvs : List (Key × V)} (e : H a = some (.dK kvs)) : TyZ F H (.ref a) "dict"
/-! ### methods -/
end
end Z

namespace Z
open PySem L2 SX
open PyProof.Rows (subscriptTail)
/-- a local name's value -/
def lk (N : List Str) (st : St) (x : Str) : Option V := if N.idxOf x < N.length then (match st[N.idxOf x]? with | some (some v) => some v | _ => none) else none
def visB (sc : Scope) (x : Str) : Bool := match sc.names.lookup x with | some .local => true | some .cell => true | some .free => true | _ => false
theorem visB_vis {sc : Scope} {x : Str} (h : visB sc x = true) : Vis sc x := by
  unfold visB at h
  unfold Vis
  split at h
  · next e => exact .inl e
  · next e => exact .inr (.inl e)
  · next e => exact .inr (.inr e)
  · cases h
section
variable {c : Ct} {M M1 M2 : Md} {st : St} {H : Hp} {P P1 P2 : VK} {W : XK} {e a b : Expr} {es : List Expr} {pos p : Pos} {v : V} {vs : List V}
/-- a comprehension whose elements are told by their place, kept where t says so -/
def kept (n : Nat) (t : Nat → Bool) (f : Nat → V) : List V := ((List.range n).filter t).map f
end
/-- the letters -/
def LET : List Nat := [97, 98, 99, 100, 101, 102, 103, 104, 105, 106, 107, 108, 109, 110, 111, 112, 113, 114, 115, 116, 117, 118, 119, 120, 121, 122]
def isLet (k : Nat) : Bool := decide (97 ≤ k) && decide (k ≤ 122)
theorem mem_LET (k : Nat) : decide (k ∈ LET) = isLet k := by
  unfold isLet LET
  rw [Bool.eq_iff_iff, Bool.and_eq_true, decide_eq_true_eq, decide_eq_true_eq, decide_eq_true_eq]
  simp only [List.mem_cons, List.not_mem_nil, or_false]
  omega
theorem LET_str : ("abcdefghijklmnopqrstuvwxyz" : Str) = S LET := by decide +kernel
end Z
namespace Z
open PySem L2 SX
theorem bt_len : bootBuiltins "len" = some (.builtin "len") := by decide +kernel
theorem bt_min : bootBuiltins "min" = some (.builtin "min") := by decide +kernel
theorem bt_max : bootBuiltins "max" = some (.builtin "max") := by decide +kernel
theorem bt_abs : bootBuiltins "abs" = some (.builtin "abs") := by decide +kernel
theorem bt_all : bootBuiltins "all" = some (.builtin "all") := by decide +kernel
theorem bt_sum : bootBuiltins "sum" = some (.builtin "sum") := by decide +kernel
theorem bt_sorted : bootBuiltins "sorted" = some (.builtin "sorted") := by decide +kernel
theorem bt_repr : bootBuiltins "repr" = some (.builtin "repr") := by decide +kernel
theorem bt_isinstance : bootBuiltins "isinstance" = some (.builtin "isinstance") := by decide +kernel
theorem bt_int : bootBuiltins "int" = some (.type "int") := by decide +kernel
theorem bt_str : bootBuiltins "str" = some (.type "str") := by decide +kernel
theorem bt_bool : bootBuiltins "bool" = some (.type "bool") := by decide +kernel
theorem bt_list : bootBuiltins "list" = some (.type "list") := by decide +kernel
theorem bt_tuple : bootBuiltins "tuple" = some (.type "tuple") := by decide +kernel
theorem bt_dict : bootBuiltins "dict" = some (.type "dict") := by decide +kernel
theorem bt_set : bootBuiltins "set" = some (.type "set") := by decide +kernel
/-- a def of the text as the top left it -/
def DfN (F : PySem.W.Frag) (mg : Str → Option Value) (x : Str) (ps : List Str) (st : Stmt) : Prop := ∃ f fd, mg x = some (.ref f) ∧ Fun F x x st f fd ∧ Binds F fd ps []
end Z

namespace Z
open PySem PySem.Spec PyProof.Rows L2
/-- what the caller of the law is told at the end -/
abbrev LawEnd (s1 : Shared) : Result → Shared → Prop := fun r s2 => r = .ok (.ret (.bool true)) ∧ OldK s1.heap s2.heap ∧ s2.os = s1.os ∧ AllBare s2.gens
section
variable {P : Program} {w : World} {F : PySem.W.Frag} {mg mb : Str → Option Value} {k : Nat} {fa a : Addr} {fd : FuncData} {x : Str} {sp : Sp} {s1 : Shared} {vs : List Value} {ns : List Int} {H : Hp}
/-- the law's promise at a heap in which the script alone may be tracked -/
theorem law_in (inn : F.In s1.heap) (hns : s1.heap.Ns mainGlobals mg) (hb : s1.heap.Ns builtinsNs mb) (hbb : ∀ x : Str, x ≠ "__name__" → mb x = bootBuiltins x) (lim : s1.heap.NoLimit) (bare : s1.gens = #[])
    (ha : s1.heap.get? a = some { cls := .type "list", data := .seq vs.toArray }) (hr : Room k callerA) (G : ∀ base : Heap, F.In base → base.Ns mainGlobals mg → FnG P w F mg base k fa fd [x] sp)
    (hbind : ∀ (s : Shared) (u : Value), BindsTo s fd ⟨[u], []⟩ [(x, u)]) (hsp : sp [.ref a] H (fun v _ => v = .bl true) fun _ _ _ => False)
    (only : Only H) (hok : HOk P w H s1.heap) (one : ∀ b, H b ≠ none → b = a) (notF : H a ≠ none → F.lookup a = none) : codeAny (model P w) callerA (.call (.ref fa) ⟨[.ref a], []⟩) (LawEnd s1) s1 := by
  have away : ∀ {b : Addr} {o : Obj}, s1.heap.get? b = some o → o.data ≠ .seq vs.toArray → H b = none := fun {b o} e d => by
    cases q : H b with
    | none => rfl
    | some u =>
      obtain rfl := one b (by rw [q]; exact Option.some_ne_none _)
      rw [ha] at e
      cases e
      exact absurd rfl d
  have names : ∀ {b : Addr} {m : Str → Option Value}, s1.heap.Ns b m → (hidT s1.heap H).Ns b m := fun {b m} h => by
    obtain ⟨o, es, ep, e, d, r⟩ := h
    exact ⟨o, es, ep, hidT_get e (away e (by rw [d]; exact fun z => nomatch z)), d, r⟩
  have innB : F.In (hidT s1.heap H) := fun b o e => hidT_get (inn b o e) (by
    cases q : H b with
    | none => rfl
    | some u =>
      have ne : H b ≠ none := by rw [q]; exact Option.some_ne_none _
      obtain rfl := one b ne
      rw [notF ne] at e
      cases e)
  obtain ⟨mc, l1, l2⟩ := lim
  have e0 : Env0 P w F mg (hidT s1.heap H) callerA [] s1 H := ⟨rfl, ⟨innB, names hns, ⟨mb, names hb, hbb⟩, ⟨mc, names l1, l2⟩⟩, fun b o e => of_hidT e, Nat.le_of_eq (hidT_size _ _), trivial, fun b z => absurd z (List.not_mem_nil), hok, .of_eq bare⟩
  refine codeAny_mono ((G _ innB (names hns)).run callerA hr rfl [] s1 H e0 ⟨[.ref a], []⟩ [.ref a] [.ref a] (.cons rfl .nil) (hbind s1 (.ref a)) _ _ hsp) fun r s2 z => ?_
  match r, z with
  | .error e, z =>
    obtain ⟨_, _, _, _, _, _, _, _, _, _, _, _, n⟩ := z
    exact n.elim
  | .ok .next, z => exact z.elim
  | .ok .brk, z => exact z.elim
  | .ok .cont, z => exact z.elim
  | .ok (.ret u), ⟨v, H2, e1, e2, un, ok2, r2, q2⟩ =>
    subst q2
    obtain rfl : u = Value.bool true := r2
    refine ⟨rfl, OldK.of_keep fun b o e => ?_, e1, e2⟩
    rcases only b with q | ⟨ob, xs, q⟩
    · exact un.keep b o e q (by intro z; exact absurd (show b ∈ ([] : List Addr) from z) List.not_mem_nil) (by simp)
    · have f1 := (hok b _ q).1
      rw [f1] at e
      cases e
      exact (ok2 b _ (un.frzs b _ _ q)).1
/-- the law's call -/
theorem law_run (inn : F.In s1.heap) (hns : s1.heap.Ns mainGlobals mg) (hb : s1.heap.Ns builtinsNs mb) (hbb : ∀ x : Str, x ≠ "__name__" → mb x = bootBuiltins x) (lim : s1.heap.NoLimit) (bare : s1.gens = #[])
    (ha : s1.heap.get? a = some { cls := .type "list", data := .seq vs.toArray }) (hi : IntsAre vs ns) (hl : ns.length ≤ sizeLine) (hr : Room k callerA)
    (G : ∀ base : Heap, F.In base → base.Ns mainGlobals mg → FnG P w F mg base k fa fd [x] sp) (hbind : ∀ (s : Shared) (u : Value), BindsTo s fd ⟨[u], []⟩ [(x, u)])
    (hsp : ∀ H : Hp, Only H → SqL F H a (ns.map V.int) → sp [.ref a] H (fun v _ => v = .bl true) fun _ _ _ => False) : codeAny (model P w) callerA (.call (.ref fa) ⟨[.ref a], []⟩) (LawEnd s1) s1 := by
  have rv := vals_ints hi
  cases hk : F.lookup a with
  | some o =>
    obtain rfl := Option.some.inj ((inn a o hk).symm.trans ha)
    have on : Only fun _ => none := fun _ => .inl rfl
    refine law_in (H := fun _ => none) inn hns hb hbb lim bare ha hr G hbind (hsp _ on (.inr ⟨_, vs.toArray, _, hk, rfl, rfl, rfl, ?_, by simpa using rv⟩)) on (fun _ _ z => nomatch z) (fun _ z => absurd rfl z) (fun z => absurd rfl z)
    rw [List.size_toArray, hi.length]
    exact hl
  | none =>
    let u : HO := .frz { cls := .type "list", data := .seq vs.toArray } (.lst (ns.map V.int))
    have at_a : (upd (fun _ => none) a u : Hp) a = some u := upd_same
    have off : ∀ b, b ≠ a → (upd (fun _ => none) a u : Hp) b = none := fun b z => upd_ne z
    have on : Only (upd (fun _ => none) a u) := fun b => by
      by_cases e : b = a
      · subst e
        exact .inr ⟨_, _, at_a⟩
      · exact .inl (off b e)
    refine law_in (H := upd (fun _ => none) a u) inn hns hb hbb lim bare ha hr G hbind (hsp _ on (.inl (.inr ⟨_, at_a⟩))) on (fun b q z => ?_) (fun b z => Decidable.byContradiction fun e => z (off b e)) (fun _ => hk)
    by_cases e : b = a
    · subst e
      rw [at_a] at z
      cases z
      exact ⟨ha, by rw [List.length_map]; exact hl, vs, _, rv, ha⟩
    · rw [off b e] at z
      cases z
end
/-- the goal that the head leaves, from the law's promise; the script's ints are of at most 1048576 bits -/
theorem walkG {l : PySem.W.OpenLaw} {n k : Nat} {q : Program} {loose : List Str} {XP : (Str → Option Value) → Heap → Prop} {YP : World → Heap → Prop} {d : DefRec} {K : Params → PySem.W.Frag} {sp : World → Sp} {x : Str}
    (hn : l.most = some n) (hn2 : n ≤ sizeLine) (hdf : d.params.defaults = []) (hr : Room k callerA) (hY : ∀ (w : World) (h : Heap), YP w h → (K w.params).In h)
    (G : ∀ (w : World) (mg : Str → Option Value) (fa : Addr) (h : Heap), (K w.params).In h → h.Ns mainGlobals mg → mg d.name = some (.ref fa) →
      ∃ fd : FuncData, (∀ (s : Shared) (u : Value), BindsTo s fd ⟨[u], []⟩ [(x, u)]) ∧ ∀ base : Heap, (K w.params).In base → base.Ns mainGlobals mg → FnG l.prog w (K w.params) mg base k fa fd [x] (sp w))
    (hsp : ∀ (w : World) (H : Hp) (a : Addr) (ns : List Int), ns.length ≤ n → (∀ z ∈ ns, Builtin.Int.intBits z ≤ 1048576) → Only H → SqL (K w.params) H a (ns.map V.int) → sp w [.ref a] H (fun v _ => v = .bl true) fun _ _ _ => False) :
    PySem.W.WalkO q loose XP YP l.row.toRowW d [] (fun f vs => PySem.call f vs) := by
  refine Att.attach_callB hn hdf fun w s0 s1 mg mb fa o pm cd doc a vs ns B Y ho hd hcd hmg hobj hints hlen hbits hg => ?_
  obtain ⟨fd, b, g⟩ := G w mg fa _ (hY w _ Y) B.T.g hmg
  exact law_run (hY w _ Y) B.T.g B.T.b B.T.builtins B.T.nolimit hg hobj hints (Nat.le_trans hlen hn2) hr g b fun H on s => hsp w H a ns hlen hbits on s
end Z

namespace Z
open PySem L2 SX
open PyProof.Rows (subscriptTail)
section
variable {c : Ct} {M M1 M2 : Md} {st : St} {H : Hp} {P P1 P2 P3 : VK} {W : XK} {e a b d : Expr} {es : List Expr} {pos pos' p1 : Pos} {vs : List V}
theorem OpF.imp {f : Value} {xs : List V} (h : OpF c M f xs H P) (k : ∀ v H', Same H H' → P v H' → P1 v H') : OpF c M f xs H P1 := .mk fun X hX K j Q q => h.run X hX K j Q fun v H' K' g p => q v H' K' g (k v H' g.b p)
theorem OpI.imp {x y : V} (h : OpI c M x y H P) (k : ∀ v H', Same H H' → P v H' → P1 v H') : OpI c M x y H P1 := .mk fun X hX K j Q q => h.run X hX K j Q fun v H' K' g p => q v H' K' g (k v H' g.b p)
theorem OpM.imp {id : String} {x : V} {xs : List V} (h : OpM c M id x xs H P) (k : ∀ v H', Same H H' → P v H' → P1 v H') : OpM c M id x xs H P1 := .mk fun X hX K j Q q => h.run X hX K j Q fun v H' K' g p => q v H' K' g (k v H' g.b p)
/-! ### dicts that are known for good -/
/-! ### data that is shown, that is held against other data -/
/-! ### two names at once -/
theorem sw_two {x y : Str} {px py pt p2 : Pos} {kt k2 : Nat} {env : Env} (hb : env.blockKind = .function) (hx : env.kindOf x = some .local) (hy : env.kindOf y = some .local) (hl : (py.line == px.line) = true) (hn : (x == y) = false)
    (hs : ([a, b].any fun | .Starred .. => true | _ => false) = false) (hf : [a, b].all (foldedForSure 8) = false) (hc : [a, b].all (constantsAlone 8) = false) :
    swappedStores [.Tuple [.Name x px, .Name y py] kt pt] (.Tuple [a, b] k2 p2) env = pure (some [x, y]) := by
  have hl' : (px.line == px.line) = true := beq_self_eq_true _
  have hn' : (y == x) = false := by
    rw [beq_eq_false_iff_ne] at hn ⊢
    exact fun z => hn z.symm
  unfold swappedStores
  simp only [hb, hs, hf, hc, Expr.pos, List.head?_cons, Option.map_some, Option.getD_some, List.filterMap_cons, List.filterMap_nil, hx, hy, hl, hl', beq_self_eq_true, Bool.and_self, Bool.and_true, if_true, List.length_cons, List.length_nil]
  simp [List.eraseDups, List.eraseDupsBy, List.eraseDupsBy.loop, hn']
  simp only [List.any_cons, List.any_nil, Bool.or_false, Bool.or_eq_false_iff] at hs
  rintro (z | z)
  · exact absurd (z.symm.trans hs.1) (by decide)
  · exact absurd (z.symm.trans hs.2) (by decide)
end
end Z

namespace Z
open PySem PySem.Spec L2 SX
/-- a list that is new since H -/
abbrev NewL (H : Hp) (xs : List V) : VK := fun v H' => ∃ p, v = .ref p ∧ H p = none ∧ H' p = some (.lst xs)
instance {H : Hp} {xs : List V} : Mono (NewL H xs) := ⟨fun _ _ _ s ⟨p, e, n, h⟩ => ⟨p, e, n, s _ _ h⟩⟩
/-! ### names stored from the items of a list -/
def IsNs (c : Ct) : List Expr → List Nat → Prop
  | [], [] => True
  | e :: es, j :: js => IsN c e j ∧ IsNs c es js
  | _, _ => False
def gNs : List Nat → TGs
  | [] => gNil
  | j :: js => gCons (gName j) (gNs js)
def setAll (st : St) : List Nat → List V → St
  | j :: js, x :: xs => setAll (st.set j (some x)) js xs
  | _, _ => st
theorem gNs_of {K : Hp} {Q : L2.St → Hp → Prop} : ∀ (js : List Nat) (xs : List V) (st : L2.St), xs.length = js.length → Q (setAll st js xs) K → gNs js xs st K Q
  | [], [], _, _, q => ⟨rfl, q⟩
  | [], _ :: _, _, h, _ => nomatch h
  | _ :: _, [], _, h, _ => nomatch h
  | _ :: js, x :: xs, _, h, q => ⟨x, xs, rfl, gNs_of js xs _ (Nat.succ.inj h) q⟩
theorem pgs_names {c : Ct} {X : Cx} (hX : Con c X) : ∀ {es : List Expr} {js : List Nat}, IsNs c es js → PGs X es (gNs js) ∧ (assignEach es X.env).length = js.length ∧ (assignEach es X.env).findIdx? (·.1) = none
  | [], [], _ => ⟨pgs_nil, rfl, rfl⟩
  | e :: es, j :: js, ⟨h1, h2⟩ => by
    obtain ⟨q1, q2, q3⟩ := pgs_names hX h2
    have g := isN_pg h1 hX
    obtain ⟨x, p, rfl, _⟩ := h1
    refine ⟨pgs_cons g q1, ?_, ?_⟩
    · show (assignEach es X.env).length + 1 = js.length + 1
      rw [q2]
    · show ((false, assign (.Name x p) X.env) :: assignEach es X.env).findIdx? (·.1) = none
      rw [List.findIdx?_cons, q3]
      rfl
section
variable {c : Ct} {X : Cx} {M0 M M1 M2 : Md} {Mi : Nat → Md} {H0 K0 H K : Hp} {st : L2.St} {D : Ends} {W : XK} {P P1 : VK} {e a b o tg iter elt kx vx : Expr} {es : List Expr} {ifs : List Expr} {scope : Scope} {pos p1 apos : Pos} {n : Nat} {Y Y2 : Nat → VK} {own : List (Str × Nat)} {x : Str}
end
section
variable {c : Ct} {X : Cx} {M0 M M1 M2 : Md} {Mi : Nat → Md} {H0 K0 H K : Hp} {st : L2.St} {D : Ends} {W : XK} {tg iter kx vx : Expr} {ifs : List Expr} {scope : Scope} {pos p1 p2 : Pos} {n : Nat} {Y Y2 : Nat → VK} {own : List (Str × Nat)} {x : Str}
end
end Z

namespace Z
open PySem PySem.Spec L2 SX
section
variable {c : Ct} {M M1 M2 : Md} {st : L2.St} {H : Hp} {P P1 P2 : VK} {W : XK} {e a b : Expr} {es rest : List Expr} {pos : Pos}
theorem Ev.cast {i j : Int} (h : Ev c M M1 e st H (Is (.int i)) W) (q : i = j) : Ev c M M1 e st H (Is (.int j)) W := q ▸ h
theorem Ev.castS {l k : List Nat} (h : Ev c M M1 e st H (Is (.str (S l))) W) (q : l = k) : Ev c M M1 e st H (Is (.str (S k))) W := q ▸ h
theorem Ev.castB {p r : Bool} (h : Ev c M M1 e st H (Is (.bl p)) W) (q : p = r) : Ev c M M1 e st H (Is (.bl r)) W := q ▸ h
theorem EvT.castB {p r : Bool} (h : EvT c M M1 e st H (IsB p) W) (q : p = r) : EvT c M M1 e st H (IsB r) W := q ▸ h
end
/-! ### what holds between two statements -/
theorem cS.nx {X : Cx} {s : Stmt} {D : Ends} {Q : L2.St → Hp → Prop} {st : L2.St} {K : Hp} (h : cS X s { D with nx := Q } st K) (k : ∀ st2 K2, Q st2 K2 → D.nx st2 K2) : cS X s D st K := fun pins s I => by
  refine wpAny_mono (h pins s I) (fun fl s2 z => ?_) (fun _ _ z => z)
  match fl, z with
  | .next, ⟨st2, K2, I2, q⟩ => exact ⟨st2, K2, I2, k st2 K2 q⟩
  | .brk, z => exact z
  | .cont, z => exact z
  | .ret u, z => exact z
/-! ### slices and places of texts -/
theorem cut_le {a : List Nat} {lo hi : Option Int} {n : Nat} (h : a.length ≤ n) : (cutN a lo hi).length ≤ n := by
  unfold cutN
  rw [List.length_take, List.length_drop]
  omega
theorem app_le {a b : List Nat} {i j : Nat} (h1 : a.length ≤ i) (h2 : b.length ≤ j) : (a ++ b).length ≤ i + j := by
  rw [List.length_append]
  exact Nat.add_le_add h1 h2
theorem cut_two {a : List Nat} {i j : Nat} {x y : Int} (hx : x = (i : Int)) (hy : y = (j : Int)) : cutN a (some x) (some y) = (a.drop i).take (j - i) := by
  subst hx hy
  unfold cutN
  rw [HT.sIx_nat, HT.sIx_nat]
  by_cases h : i ≤ a.length
  · rw [Nat.min_eq_left h]
    by_cases h2 : j ≤ a.length
    · rw [Nat.min_eq_left h2]
    · rw [Nat.min_eq_right (by omega), List.take_of_length_le (by rw [List.length_drop]; omega), List.take_of_length_le (by rw [List.length_drop]; omega)]
  · rw [Nat.min_eq_right (show a.length ≤ i by omega), List.drop_length, List.drop_of_length_le (by omega), List.take_nil, List.take_nil]
theorem cut_to {a : List Nat} {j : Nat} {y : Int} (hy : y = (j : Int)) : cutN a none (some y) = a.take j := by
  have h : cutN a none (some y) = cutN a (some 0) (some y) := by
    unfold cutN
    rw [HT.sIx_none, show (0 : Int) = ((0 : Nat) : Int) from rfl, HT.sIx_nat]
    simp
  rw [h, cut_two (x := 0) (i := 0) rfl hy]
  simp
theorem cut_from {a : List Nat} {i : Nat} {x : Int} (hx : x = (i : Int)) : cutN a (some x) none = a.drop i := by
  subst hx
  unfold cutN
  rw [HT.sIx_nat, HT.sIx_none]
  by_cases h : i ≤ a.length
  · rw [Nat.min_eq_left h, List.take_of_length_le (by rw [List.length_drop]; omega)]
  · rw [Nat.min_eq_right (by omega), List.drop_length, List.drop_of_length_le (by omega), List.take_nil]
theorem at_nat {α : Type} {xs : List α} {x : Int} {j : Nat} {v : α} (hx : x = (j : Int)) (h : xs[j]? = some v) : atI xs x = some v := by
  subst hx
  exact atI_nat h
end Z

namespace Z
open PySem PySem.Spec L2 SX
/-! ### one list that may change -/
/-- the list at p alone may change; what stands in it is told by A -/
def listM (p : Addr) (A : List V → Prop) : Md := ⟨fun a => a = p, fun _ K => ∃ xs, K p = some (.lst xs) ∧ A xs, fun H K K' h ⟨xs, e, q⟩ => ⟨xs, by rw [h p rfl]; exact e, q⟩, fun _ _ _ _ h => h, fun H K a ⟨xs, e, _⟩ s => by rw [show a = p from s, e]; exact Option.some_ne_none _⟩
abbrev listX (p : Addr) (xs : List V) : Md := listM p (· = xs)
theorem J.cell {p : Addr} {xs : List V} {H K : Hp} (j : J (listX p xs) H K) : K p = some (.lst xs) := by
  obtain ⟨ys, e, q⟩ := j.r
  rw [← show ys = xs from q]
  exact e
section
variable {c : Ct} {X : Cx} {M0 M M1 M2 : Md} {H0 K0 H K : Hp} {st : L2.St} {D : Ends} {W : XK} {P P1 P2 : VK} {e a b : Expr} {pos p1 : Pos} {p : Addr} {xs : List V} {i : Int} {v : V}
end
/-! ### products -/
theorem mulW {i j : Int} {m k : Nat} (hi : i.natAbs < 2 ^ m) (hj : j.natAbs < 2 ^ k) (h : m + k < 1000000) : CMulW i j := by
  have f : ∀ {x m : Nat}, x < 2 ^ m → x.log2 ≤ m := fun {x m} hx => by
    by_cases z : x = 0
    · rw [z]
      simp
    · exact Nat.le_of_lt ((Nat.log2_lt z).mpr hx)
  unfold CMulW
  have := f hi
  have := f hj
  omega
end Z

namespace Z
open PySem PySem.Spec L2 SX
theorem OpL.imp {c : Ct} {M : Md} {H : Hp} {P P1 : VK} {x : V} {l u : Option Int} (h : OpL c M x l u H P) (k : ∀ v H', Same H H' → P v H' → P1 v H') : OpL c M x l u H P1 := .mk fun X hX K j Q q => h.run X hX K j Q fun v H' K' g p => q v H' K' g (k v H' g.b p)
/-! ### stores into names that a comprehension reads -/
section
variable {c : Ct} {X : Cx} {M0 M M1 M2 : Md} {H0 K0 H K : Hp} {st : L2.St} {D : Ends} {W : XK} {P : VK} {a b : Expr} {pos p1 : Pos} {x y : Str}
theorem sw_half {px py pt p2 : Pos} {kt k2 : Nat} {env : Env} (hb : env.blockKind = .function) (hx : env.kindOf x = some .local ∨ env.kindOf x = some .cell) (hy : env.kindOf y = some .local ∨ env.kindOf y = some .cell) (hn : env.kindOf x = some .cell ∨ env.kindOf y = some .cell)
    (hs : ([a, b].any fun | .Starred .. => true | _ => false) = false) : swappedStores [.Tuple [.Name x px, .Name y py] kt pt] (.Tuple [a, b] k2 p2) env = pure none := by
  have ne : ((some NameKind.cell == some NameKind.local) = true) = False := by decide
  unfold swappedStores
  simp only [hb, hs, Expr.pos, List.head?_cons, Option.map_some, Option.getD_some, List.length_cons, List.length_nil]
  simp only [List.any_cons, List.any_nil, Bool.or_false, Bool.or_eq_false_iff] at hs
  rcases hx with hx | hx <;> rcases hy with hy | hy
  · rw [hx, hy] at hn
    rcases hn with z | z <;> cases z
  · simp [hx, hy, List.filterMap_cons]
  · by_cases hl : py.line = px.line
    · simp [hx, hy, List.filterMap_cons, hl]
    · simp [hx, hy, List.filterMap_cons, hl]
  · simp [hx, hy, List.filterMap_cons]
theorem sw_lcCell {elt : Expr} {gs : List Comprehension} {scope : Scope} {py : Pos} {l : Nat} {env : Env} (hy : env.kindOf y = some .cell) : swapsWith (.ListComp elt gs scope pos) (some (.Name y py)) l env = pure false := by
  unfold swapsWith
  simp [hy]
  rw [show (NameKind.cell == NameKind.local) = false from rfl, Bool.and_false, Bool.false_and, Bool.false_and]
end
end Z

/-! Ya: walking lists and tuples, unpacking tuples, while an exception is handled. -/
namespace HotX
open PySem PySem.Spec PyProof.Rows L2 L2H
section
variable {prog : Program} {w : World} {A : Around} {E : Value → Shared → Prop} {s : Shared}
theorem hot_list_end {it l x1 : Addr} {i : Nat} {items} {Q : Option Value → Shared → Prop} (hot : HotAt A x1 s.heap) (hx1 : x1 ≠ it)
    (hit : s.heap.IsListIter it l i) (hl : s.heap.IsList l items) (hx : items[i]? = none)
    (hQ : ∀ h', Heap.ExtBut it s.heap h' → Q none { s with heap := h' }) : wpAny (model prog w) A (pyNext (.ref it)) Q E s := by
  obtain ⟨hh, o1, vs1, h1, d1, c1⟩ := hot
  obtain ⟨o, ho, hc, hd⟩ := id hit
  obtain ⟨ol, hol, _, nl, hdl⟩ := hl
  unfold pyNext
  refine wpAny_bind (wpAny_attempt (wpAny_callSpecial?_slot (name := Str.ofString "__next__") hit.typeIs slot_listiter_next
    (wpAny_call_entry slot_listiter_next hit.typeIs entry_listiter_next ?_ (args_listiter_next _))))
  show wpAny _ _ (field (.ref it) 0 >>= _) _ _ s
  refine wpAny_bind (wpAny_field ho hd (x := .ref l) rfl ?_)
  show wpAny _ _ (if (Value.ref l == Value.none) = true then _ else _) _ _ s
  rw [if_neg (show ¬ ((Value.ref l == Value.none) = true) from Bool.false_ne_true)]
  show wpAny _ _ (field (.ref it) 1 >>= _) _ _ s
  refine wpAny_bind (wpAny_field ho hd (x := .int i 0) rfl ?_)
  show wpAny _ _ (seqItems? (.ref l) >>= _) _ _ s
  refine wpAny_bind (wpAny_seqItems hol hdl ?_)
  simp only [Int.toNat_natCast, hx]
  refine wpAny_bind (wpAny_rule (wpAny_bind (wpAny_setField ho hd (by simp) ?_)))
  show wpAny _ _ (newExc (.type "StopIteration") [] >>= _) _ _ _
  refine wpAny_bind ?_
  simp only [newExc, newTuple]
  refine wpAny_bind (wpAny_newObj_type ?_ (by size_fits))
  refine wpAny_bind (m := firstArgMember _ _) (wpAny_of_eq (a := Value.none) (by first | rfl | (simp only [firstArgMember]; rfl)) ?_)
  refine wpAny_newObj_type ?_ (by size_fits)
  have k1 : ∀ {f : Obj → Obj}, (s.heap.update it f).get? x1 = some o1 := fun {f} => by rw [Heap.get?_update_other _ _ hx1.symm]; exact h1
  refine raiseNew_hot ⟨hh, o1, vs1, Heap.get?_push_of_some _ (Heap.get?_push_of_some _ k1), d1, c1⟩ (Nat.ne_of_lt (Heap.lt_size (Heap.get?_push_of_some _ k1))) (Heap.get?_push_size _ rfl) rfl (by first | (simp; done) | (simp; omega) | (simp only [Array.size_append]; simp; omega)) ?_
  refine wpAny_bind (wpAny_isInstance (T := "StopIteration") (b := true) ⟨_, Heap.get?_update_self _ (Heap.get?_push_size _ rfl) rfl, rfl⟩ isSubtype_stop ?_)
  refine wpAny_pure (hQ _ fun b o' hb e => ?_)
  have k2 : ∀ {f : Obj → Obj}, (s.heap.update it f).get? b = some o' := fun {f} => by rw [Heap.get?_update_other _ _ (Ne.symm hb)]; exact e
  rw [Heap.get?_update_other _ _ (Nat.ne_of_gt (Heap.lt_size (Heap.get?_push_of_some _ k2)))]
  exact Heap.get?_push_of_some _ (Heap.get?_push_of_some _ k2)
theorem hot_tuple_end {it t x1 : Addr} {i : Nat} {items} {Q : Option Value → Shared → Prop} (hot : HotAt A x1 s.heap) (hx1 : x1 ≠ it)
    (hit : IsTupIter s.heap it t i) (ht : IsTup s.heap t items) (hx : items[i]? = none)
    (hQ : ∀ h', Heap.ExtBut it s.heap h' → Q none { s with heap := h' }) : wpAny (model prog w) A (pyNext (.ref it)) Q E s := by
  obtain ⟨hh, o1, vs1, h1, d1, c1⟩ := hot
  obtain ⟨o, ho, hc, hd⟩ := id hit
  obtain ⟨ol, hol, _, nl, hdl⟩ := ht
  unfold pyNext
  refine wpAny_bind (wpAny_attempt (wpAny_callSpecial?_slot (name := Str.ofString "__next__") hit.typeIs slot_tupleiter_next
    (wpAny_call_entry slot_tupleiter_next hit.typeIs entry_tupleiter_next ?_ (args_tupleiter_next _))))
  show wpAny _ _ (field (.ref it) 0 >>= _) _ _ s
  refine wpAny_bind (wpAny_field ho hd (x := .ref t) rfl ?_)
  show wpAny _ _ (if (Value.ref t == Value.none) = true then _ else _) _ _ s
  rw [if_neg (show ¬ ((Value.ref t == Value.none) = true) from Bool.false_ne_true)]
  show wpAny _ _ (field (.ref it) 1 >>= _) _ _ s
  refine wpAny_bind (wpAny_field ho hd (x := .int i 0) rfl ?_)
  show wpAny _ _ (seqItems? (.ref t) >>= _) _ _ s
  refine wpAny_bind (wpAny_seqItems hol hdl ?_)
  simp only [Int.toNat_natCast, hx]
  refine wpAny_bind (wpAny_rule (wpAny_bind (wpAny_setField ho hd (by simp) ?_)))
  show wpAny _ _ (newExc (.type "StopIteration") [] >>= _) _ _ _
  refine wpAny_bind ?_
  simp only [newExc, newTuple]
  refine wpAny_bind (wpAny_newObj_type ?_ (by size_fits))
  refine wpAny_bind (m := firstArgMember _ _) (wpAny_of_eq (a := Value.none) (by first | rfl | (simp only [firstArgMember]; rfl)) ?_)
  refine wpAny_newObj_type ?_ (by size_fits)
  have k1 : ∀ {f : Obj → Obj}, (s.heap.update it f).get? x1 = some o1 := fun {f} => by rw [Heap.get?_update_other _ _ hx1.symm]; exact h1
  refine raiseNew_hot ⟨hh, o1, vs1, Heap.get?_push_of_some _ (Heap.get?_push_of_some _ k1), d1, c1⟩ (Nat.ne_of_lt (Heap.lt_size (Heap.get?_push_of_some _ k1))) (Heap.get?_push_size _ rfl) rfl (by first | (simp; done) | (simp; omega) | (simp only [Array.size_append]; simp; omega)) ?_
  refine wpAny_bind (wpAny_isInstance (T := "StopIteration") (b := true) ⟨_, Heap.get?_update_self _ (Heap.get?_push_size _ rfl) rfl, rfl⟩ isSubtype_stop ?_)
  refine wpAny_pure (hQ _ fun b o' hb e => ?_)
  have k2 : ∀ {f : Obj → Obj}, (s.heap.update it f).get? b = some o' := fun {f} => by rw [Heap.get?_update_other _ _ (Ne.symm hb)]; exact e
  rw [Heap.get?_update_other _ _ (Nat.ne_of_gt (Heap.lt_size (Heap.get?_push_of_some _ k2)))]
  exact Heap.get?_push_of_some _ (Heap.get?_push_of_some _ k2)
theorem hot_unpackItems {t x1 : Addr} {items : Array Value} {Q : List Value → Shared → Prop} (hot : HotAt A x1 s.heap) (ht : IsTup s.heap t items)
    (hQ : ∀ h', Heap.ExtBut s.heap.objs.size s.heap h' → Q items.toList { s with heap := h' }) : wpAny (model prog w) A (unpackItems (.ref t) items.size none) Q E s := by
  have hlt : t ≠ s.heap.objs.size := by obtain ⟨o, ho, _⟩ := ht; exact Nat.ne_of_lt (Heap.lt_size ho)
  obtain ⟨hh, o1, vs1, h1, d1, c1⟩ := hot
  have hx1 : x1 ≠ s.heap.objs.size := Nat.ne_of_lt (Heap.lt_size h1)
  unfold unpackItems
  refine wpAny_bind ?_
  · unfold notIterableAtAll
    refine wpAny_bind (wpAny_specialOf ht.typeIs slot_tuple_iter.lookup ?_)
    refine wpAny_pure ?_
    simp only [Bool.false_eq_true, if_false]
    refine wpAny_bind (wpAny_holding (iter_tuple ht ?_))
    refine wpAny_bind (wpAny_holding (draw_tuple hlt items.size 0 _ _ ⟨_, Heap.get?_push_size _ rfl, rfl, rfl⟩ (ht.push _) (by omega) fun h₁ hit₁ hs₁ => ?_))
    have hall : List.take items.size (List.drop 0 items.toList) = items.toList := by
      rw [List.drop_zero]; exact List.take_of_length_le (by simp)
    rw [hall]
    rw [if_neg (by simp)]
    have ht₁ : IsTup h₁ t items := (ht.push _).extBut hs₁.extBut hlt
    have hot₁ : HotAt A x1 h₁ := ⟨hh, o1, vs1, hs₁.extBut _ _ hx1 (Heap.get?_push_of_some _ h1), d1, c1⟩
    refine wpAny_bind (wpAny_holding (hot_tuple_end hot₁ hx1 hit₁ ht₁ (by simp) fun h₂ he₂ => ?_))
    simp only [Option.isSome_none, Bool.false_eq_true, if_false]
    refine wpAny_pure (hQ h₂ fun b o hb e => he₂ b o hb (hs₁.extBut b o hb (Heap.get?_push_of_some _ e)))
theorem hot_unpack {t x1 : Addr} {items : Array Value} {targets : List (Bool × (Value → Sem Unit))} {Q : Unit → Shared → Prop} (hot : HotAt A x1 s.heap) (ht : IsTup s.heap t items)
    (hn : targets.length = items.size) (hstar : targets.findIdx? (·.1) = none)
    (h : ∀ h', Heap.ExtBut s.heap.objs.size s.heap h' → wpAny (model prog w) A (assignInOrder (targets.map (·.2)) items.toList) Q E { s with heap := h' }) :
    wpAny (model prog w) A (unpack (.ref t) targets) Q E s := by
  unfold unpack
  rw [hn, hstar]
  exact wpAny_bind (wpAny_holding (hot_unpackItems hot ht h))
end
section
variable {X : Cx} {pos : Pos}
theorem pg_tupH {es : List Expr} {k : Nat} {t : TGs} {n : Nat} (hc : HotC X) (h : PGs X es t)
    (hn : (assignEach es X.env).length = n := by rfl) (hst : (assignEach es X.env).findIdx? (·.1) = none := by rfl) : PG X (.Tuple es k pos) (gTup X.K n t) := by
  refine ⟨fun pins s σ H v u Q I r hw => ?_⟩
  obtain ⟨a, xs, e1, hq, hl, hw⟩ := hw
  subst e1
  cases r
  obtain ⟨its, rv, ht, hz⟩ := I.tuple hq
  obtain ⟨x1, hot⟩ := hc.at I
  rw [assign_Tuple]
  refine wpAny_bind (wpAny_standAt (hot_unpack hot ht (by simp [hn, ← hl, rv.length]) hst fun h' hx => ?_))
  have I1 : Inv X pins σ H { s with heap := h' } := I.kept (t' := s.toks) fun b o e => hx b o (Nat.ne_of_lt (Heap.lt_size e)) e
  exact h.run pins _ σ H xs _ Q I1 (by simpa using rv) hw
theorem turn_listH {P : Program} {w : World} {K : PySem.W.Frag} {tg : Expr} (a it : Addr) : TurnH P w K tg (Itl K a) [it] it (fun i h => h.IsListIter it a i) where
  mem := (turn_list (P := P) (w := w) (K := K) (tg := tg) a it).mem
  obj := (turn_list (P := P) (w := w) (K := K) (tg := tg) a it).obj
  keep := (turn_list (P := P) (w := w) (K := K) (tg := tg) a it).keep
  item := by
    intro X hP hw hK hc i pins s σ H E I hf st hg
    subst hP hw hK
    obtain ⟨xs, x, hq, hx⟩ := hg
    obtain ⟨its, rv, p, hz⟩ := I.list hq
    obtain ⟨u, hu, ru⟩ := rv.get hx
    obtain ⟨f0, f1, f2, f3, f4, f5⟩ := hf it (by simp)
    refine wpAny_pyNext_list_item st p.isList (x := u) (by simpa using hu) fun h' st' sb => ?_
    have I1 : Inv X pins σ H { s with heap := h' } := I.turned (t' := s.toks) (fun b o hb e => (sb.2 b hb).trans e) f0 f1 f3 f4 f5
    obtain ⟨o, e, c, d⟩ := id st'
    exact ⟨u, rfl, go_of (s := { s with heap := h' }) e c d (by decide) ⟨x, H, I1, ru, ⟨rfl, fun ys hy => by rw [I.list_inj hy hq]; exact hx⟩, st', fun b hb => (hf b hb).1⟩⟩
  done := by
    intro X hP hw hK hc i pins s σ H E I hf st hg
    subst hP hw hK
    obtain ⟨xs, hq, hx⟩ := hg
    obtain ⟨its, rv, p, hz⟩ := I.list hq
    obtain ⟨f0, f1, f2, f3, f4, f5⟩ := hf it (by simp)
    have hl := rv.length
    obtain ⟨q, ⟨hh, v1, e1, c1⟩, hp⟩ := hc
    have z := (I.pin q (List.mem_append_left _ hp)).1
    exact hot_list_end ⟨hh, q.2, v1, z, e1, c1⟩ (f5 q (List.mem_append_left _ hp)) st p.isList (by simp; omega) fun h' eb => ⟨rfl, I.turned (t' := s.toks) (fun b o hb e => eb b o hb e) f0 f1 f3 f4 f5⟩
  self := fun _ _ _ _ _ st h => wpAny_pyIter_listiter st h
theorem pi_listH {tg l : Expr} {tl : L2.TE} (hl : PE X l tl) : PIH X tg l (iList X.K tl) := by
  refine ⟨fun pins s σ H R I h => ?_⟩
  refine thn (hl.run pins s σ H _ I h) fun v s1 ⟨x, H1, I1, r1, q1⟩ => ?_
  obtain ⟨a, e, ⟨xs, hq⟩, q⟩ := q1
  subst e
  cases r1
  obtain ⟨its, rv, p, hz⟩ := I1.list hq
  refine wpAny_pyIter_list p.isList ?_
  refine ⟨s1.heap.objs.size, [s1.heap.objs.size], _, _, H1, rfl, I1.kept (t' := s1.toks) fun b o e => Heap.get?_push_of_some _ e, turn_listH a _, ⟨_, Heap.get?_push_size _ rfl, rfl, rfl⟩, fun b hb => ?_, q⟩
  have e : b = s1.heap.objs.size := by simpa using hb
  subst e
  exact I1.fpOk (Nat.le_refl _) (I1.hok.fresh (Nat.le_refl _))
end
end HotX

/-! Yc: contexts, where nothing is handled (hp = none) or an exception that is known (hp = some p); the promises of defs. -/
namespace Y
open PySem PySem.Spec PyProof.Rows L2 L2H SX Z HotX
abbrev HP := Option (Addr × Obj)
structure Ct where
  P : Program
  w : World
  K : PySem.W.Frag
  mg : Str → Option Value
  base : Heap
  N : List Str
  sc : Scope
  k : Nat
  Wx : WX
  fa : Bool
  hp : HP
inductive Con : Ct → Cx → Prop
  | mk (X : Cx) (k : Nat) (Wx : WX) (fa : Bool) (hp : HP) (hrH : RoomH k X.A) (hcf : hp = none → X.calm = true ∧ Room k X.A) (hh : ∀ p, hp = some p → Hot1 X.A p ∧ p ∈ X.pn) (hpo : PassesOwn (model X.prog X.w) X.A X.env X.xe) (ht : L2N.Takes X Wx) (hf : fa = true → ∀ x, X.fn x = true) (hN : X.N.Nodup) (hG : X.A.guards = some [])
      (hst : fa = true → X.stack = X.env :: X.outer ∧ X.env.frame = some X.env.locals ∧ X.ex = []) :
    Con ⟨X.prog, X.w, X.K, X.mg, X.base, X.N, X.env.scope, k, Wx, fa, hp⟩ X
abbrev GlS (c : Ct) (x : Str) : Prop := c.sc.names.lookup x = some .globalImplicit
/-- nothing is handled -/
class Calm (c : Ct) : Prop where
  h : c.hp = none
instance calm1 {P : Program} {w : World} {K : PySem.W.Frag} {mg : Str → Option Value} {base : Heap} {N : List Str} {sc : Scope} {k : Nat} {Wx : WX} {fa : Bool} : Calm ⟨P, w, K, mg, base, N, sc, k, Wx, fa, none⟩ := ⟨rfl⟩
instance calm2 {c : Ct} [Calm c] {P : Program} {w : World} {K : PySem.W.Frag} {mg : Str → Option Value} {base : Heap} {N : List Str} {sc : Scope} {k : Nat} {Wx : WX} {fa : Bool} : Calm ⟨P, w, K, mg, base, N, sc, k, Wx, fa, c.hp⟩ := ⟨Calm.h (c := c)⟩
/-- a hot context knows its exception -/
theorem hotC_of {X : Cx} {p : Addr × Obj} (h : Hot1 X.A p ∧ p ∈ X.pn) : HotC X := ⟨p, h.1, h.2⟩

/-! ### blocks of comprehensions -/
abbrev Ct.blk (c : Ct) (scope : Scope) : Ct := ⟨c.P, c.w, c.K, c.mg, c.base, c.N, relS scope c.sc, c.k, fun _ _ _ _ => False, false, c.hp⟩
abbrev blkQ (X : Cx) (hp : HP) (s0 : Shared) (H0 : Hp) (scope : Scope) (cenv : Env) (fp : List Addr) : Cx := { X.blk s0 H0 scope cenv fp with pn := hp.toList }
theorem takesN0 {X : Cx} : L2N.Takes X (fun _ _ _ _ => False) := fun _ _ x => by
  obtain ⟨_, _, _, _, _, _, _, _, _, _, _, _, _, _, _, _, z⟩ := x
  exact z.elim
theorem con_blk {X : Cx} {k : Nat} {Wx : WX} {fa : Bool} {hp : HP} {scope : Scope} (hrH : RoomH k X.A) (hcf : hp = none → X.calm = true ∧ Room k X.A) (hh : ∀ p, hp = some p → Hot1 X.A p ∧ p ∈ X.pn) (hN : X.N.Nodup) (hU : X.A.guards = some []) (s0 : Shared) (H0 : Hp) (C : Addr) (cl : List (Str × Addr)) (fp : List Addr) :
    Con (Ct.blk ⟨X.prog, X.w, X.K, X.mg, X.base, X.N, X.env.scope, k, Wx, fa, hp⟩ scope) (blkQ X hp s0 H0 scope (compEnvC scope cl C X.env) fp) :=
  Con.mk (blkQ X hp s0 H0 scope (compEnvC scope cl C X.env) fp) k (fun _ _ _ _ => False) false hp hrH hcf (fun p e => ⟨(hh p e).1, by rw [e]; exact List.mem_singleton.mpr rfl⟩) PassesOwn.never takesN0 (fun z => nomatch z) hN hU (fun z => nomatch z)

/-! ### names -/
def IsN (c : Ct) (tg : Expr) (j : Nat) : Prop := ∃ x pos, tg = .Name x pos ∧ c.N[j]? = some x ∧ Loc c.sc x ∧ (c.fa = true ∨ c.sc.names.lookup x = some .local)
theorem isN_pg {c : Ct} {tg : Expr} {j : Nat} {X : Cx} (h : IsN c tg j) (hX : Con c X) : PG X tg (gName j) := by
  obtain ⟨x, pos, rfl, h1, h2, h3⟩ := h
  cases hX with
  | mk _ k' Wx fa hpp hrH hcf hh hp' ht hf hN hU hst =>
    refine pg_name hN h1 h2 ?_
    rcases h3 with h3 | h3
    · exact .inl (hf h3 x)
    · exact .inr h3
def StoreN (c : Ct) (x : Str) (i : Nat) : Prop := c.N[i]? = some x ∧ Loc c.sc x ∧ (c.fa = true ∨ c.sc.names.lookup x = some .local)
def IsNs (c : Ct) : List Expr → List Nat → Prop
  | [], [] => True
  | e :: es, j :: js => IsN c e j ∧ IsNs c es js
  | _, _ => False
theorem pgs_names {c : Ct} {X : Cx} (hX : Con c X) : ∀ {es : List Expr} {js : List Nat}, IsNs c es js → PGs X es (gNs js) ∧ (assignEach es X.env).length = js.length ∧ (assignEach es X.env).findIdx? (·.1) = none
  | [], [], _ => ⟨pgs_nil, rfl, rfl⟩
  | e :: es, j :: js, ⟨h1, h2⟩ => by
    obtain ⟨q1, q2, q3⟩ := pgs_names hX h2
    have g := isN_pg h1 hX
    obtain ⟨x, p, rfl, _⟩ := h1
    refine ⟨pgs_cons g q1, ?_, ?_⟩
    · show (assignEach es X.env).length + 1 = js.length + 1
      rw [q2]
    · show ((false, assign (.Name x p) X.env) :: assignEach es X.env).findIdx? (·.1) = none
      rw [List.findIdx?_cons, q3]
      rfl
/-- a tuple of names, whatever is handled -/
theorem pg_tupQ {X : Cx} {hp : HP} {es : List Expr} {k : Nat} {t : TGs} {n : Nat} {pos : Pos} (hcf : hp = none → X.calm = true) (hh : ∀ p, hp = some p → Hot1 X.A p ∧ p ∈ X.pn) (h : PGs X es t)
    (hn : (assignEach es X.env).length = n) (hst : (assignEach es X.env).findIdx? (·.1) = none) : PG X (.Tuple es k pos) (gTup X.K n t) := by
  cases hp with
  | none => exact pg_tup (hcf rfl) h hn hst
  | some p => exact pg_tupH (hotC_of (hh p rfl)) h hn hst

/-! ### the promise of a def -/
structure FnC (hp : HP) (P : Program) (w : World) (F : PySem.W.Frag) (mg : Str → Option Value) (base : Heap) (k : Nat) (f : Addr) (fd : FuncData) (ps : List Str) (sp : Sp) : Prop where
  len : ∀ vs K Q E, sp vs K Q E → vs.length = ps.length
  run : ∀ A : Around, RoomH k A → (hp = none → A.handled = none) → (∀ p, hp = some p → Hot1 A p) → A.guards = some [] → ∀ outer s K, (∀ p, hp = some p → PinOk outer K s p) → Env0 P w F mg base A outer s K → ∀ args us vs, Vals vs us → BindsTo s fd args (ps.zip us) → ∀ Q E, sp vs K Q E →
    codeAny (model P w) A (.call (.ref f) args) (CR (L2N.CX P w) outer P w K s Q E) s
abbrev FnG := FnC none
theorem room_of {k : Nat} {A : Around} (r : RoomH k A) (h : A.handled = none) : Room k A := ⟨h, r.dp, r.un⟩
/-- where nothing is handled -/
theorem FnC.calm {P : Program} {w : World} {F : PySem.W.Frag} {mg : Str → Option Value} {base : Heap} {k : Nat} {f : Addr} {fd : FuncData} {ps : List Str} {sp : Sp} (h : FnG P w F mg base k f fd ps sp) (A : Around) (r : Room k A) (g : A.guards = some []) (outer : List Env) (s : Shared) (K : Hp) (e : Env0 P w F mg base A outer s K) (args : Args) (us : List Value) (vs : List V) (v : Vals vs us) (b : BindsTo s fd args (ps.zip us)) (Q : VK) (E : XK) (q : sp vs K Q E) :
    codeAny (model P w) A (.call (.ref f) args) (CR (L2N.CX P w) outer P w K s Q E) s := h.run A (roomH_of r) (fun _ => r.hd) (fun _ z => nomatch z) g outer s K (fun _ z => nomatch z) e args us vs v b Q E q
/-- the context of a def's body -/
def cxC (hp : HP) (P : Program) (w : World) (K : PySem.W.Frag) (mg : Str → Option Value) (base : Heap) (N : List Str) (qual : Str) (scope : Scope) (f : Addr) (cd : Value) (A : Around) (outer : List Env) (s : Shared) (H : Hp) (E : XK) : Cx :=
  { cxOf (L2N.CX P w) P w K mg base N qual scope f cd A outer s H E with calm := hp.isNone, pn := hp.toList }
section
variable {P : Program} {w : World} {F : PySem.W.Frag} {mg : Str → Option Value} {base : Heap} {k : Nat} {f : Addr} {fd : FuncData} {ps N : List Str} {sp : Sp} {hp : HP}
theorem fnC_of {x qual : Str} {st : Stmt} (d : Fun F x qual st f fd) (S : FnScope N ps (defScope st)) (len : ∀ vs K Q E, sp vs K Q E → vs.length = ps.length)
    (hb : ∀ (cdv : Value) (A : Around) (outer : List Env) (s : Shared) (K : Hp) (vs : List V) (Q : VK) (E : XK), RoomH k (A.deeper (envOfC qual (defScope st) s.heap.objs.size f cdv)) → (hp = none → A.handled = none) → (∀ p, hp = some p → Hot1 A p) → A.guards = some [] → sp vs K Q E →
      ∃ t, PSs (cxC hp P w F mg base N qual (defScope st) f cdv A outer s K E) (defBody st) t ∧ t { nx := fun _ K' => Q .non K', rt := Q } (start N vs) K) : FnC hp P w F mg base (k + 1) f fd ps sp := by
  obtain ⟨oc, od, kV, doc, pm, an, cdv, ct, osl, rfl, lk, hcd⟩ := d.ex
  refine ⟨len, fun A hr hA hot hG outer s K hpin e0 args us vs r b Q E h => ?_⟩
  have inn : F.In s.heap := e0.mod.kin.keeps fun a o z => (e0.bs a o z).1
  have lim := e0.mod.nolimit.keeps (h' := s.heap) fun a o z => (e0.bs a o z).1
  refine codeAny_call_function hr.depth (inn _ _ lk) rfl S.co S.gen rfl (PySem.W.codeRec_of inn hcd) (b _ _ _ _ (wpAny_newFunctionEnv_cells S.kind (bind_kinds S) fun env he s1 y => ?_))
  subst he
  obtain ⟨t, ht, q⟩ := hb cdv A outer s K vs Q E (hr.deeper _) hA hot hG h
  have I0 : Inv (cxC hp P w F mg base N qual (defScope st) f cdv A outer s K E) [] (start N vs) K s1 := by
    cases hp with
    | none => exact inv_start (CX := L2N.CX P w) (E := E) S (hA rfl) e0 (len _ _ _ _ h) r y
    | some p => exact inv_startH (CX := L2N.CX P w) (E := E) S (hpin p rfl) e0 (len _ _ _ _ h) r y
  refine ⟨lim.keeps y.toInCall.keep, codeAny_func (wpAny_mono (ht.run [] s1 (start N vs) K _ I0 q) (fun fl s2 z => ?_) fun _ _ z => z)⟩
  match fl, z with
  | .ret u, ⟨v, _, K2, J2, r2, q2⟩ => exact ⟨v, K2, J2.os, J2.bare, J2.base, J2.hok, r2, q2⟩
  | .next, ⟨_, K2, J2, q2⟩ => exact ⟨.non, K2, J2.os, J2.bare, J2.base, J2.hok, rfl, q2⟩
  | .brk, ⟨_, _, _, q2⟩ => exact q2.elim
  | .cont, ⟨_, _, _, q2⟩ => exact q2.elim
end
section
variable {X : Cx} {W : WX} {hp : HP} {k : Nat} {f : Addr} {fd : FuncData} {ps : List Str} {sp : Sp}
theorem runC {pins : List (Addr × Obj)} {st : L2.St} {K : Hp} {s : Shared} {Q : VK} {us : List Value} {vs : List V}
    (F : FnC hp X.prog X.w X.K X.mg X.base k f fd ps sp) (hr : RoomH k X.A) (hA : hp = none → X.A.handled = none) (hh : ∀ p, hp = some p → Hot1 X.A p ∧ p ∈ X.pn) (hG : X.A.guards = some []) (tk : L2N.Takes X W) (bs : Binds X.K fd ps []) (I : Inv X pins st K s) (r : Vals vs us) (h : sp vs K Q (WE W st)) :
    wpAny (model X.prog X.w) X.A (call (.ref f) us) (EP X pins st Q) X.xe s := by
  have hl : (us ++ ([] : List Value)).length = ps.length := by
    rw [List.append_nil, ← r.length]
    exact F.len _ _ _ _ h
  have b := bs s us I.kIn hl
  rw [List.append_nil] at b
  refine wpAny_call (codeAny_mono (F.run X.A hr hA (fun p e => (hh p e).1) hG X.stack s K (fun p e => ?_) I.env0 ⟨us, []⟩ us vs r b Q _ h) fun res s2 z => ?_)
  · have P1 := I.pin p (List.mem_append_left _ (hh p e).2)
    exact ⟨P1.1, P1.2.1, fun hm => (List.mem_cons.mp (I.stkSub p.1 hm)).elim P1.2.2.1 P1.2.2.2.1, P1.2.2.2.2⟩
  match res, z with
  | .error e, z => exact L2N.passAt tk st pins K s e s2 I z
  | .ok (.ret u), z => exact I.after z
  | .ok .next, z => exact z.elim
  | .ok .brk, z => exact z.elim
  | .ok .cont, z => exact z.elim
theorem runG {pins : List (Addr × Obj)} {st : L2.St} {K : Hp} {s : Shared} {Q : VK} {us : List Value} {vs : List V}
    (F : FnG X.prog X.w X.K X.mg X.base k f fd ps sp) (hr : Room k X.A) (hG : X.A.guards = some []) (tk : L2N.Takes X W) (bs : Binds X.K fd ps []) (I : Inv X pins st K s) (r : Vals vs us) (h : sp vs K Q (WE W st)) :
    wpAny (model X.prog X.w) X.A (call (.ref f) us) (EP X pins st Q) X.xe s := runC F (roomH_of hr) (fun _ => hr.hd) (fun _ z => nomatch z) hG tk bs I r h
theorem pe_callC {x : Str} {p pos : Pos} {e : Expr} {es : List Expr} {t : L2.TA}
    (F : FnC hp X.prog X.w X.K X.mg X.base k f fd ps sp) (hr : RoomH k X.A) (hA : hp = none → X.A.handled = none) (hh : ∀ p, hp = some p → Hot1 X.A p ∧ p ∈ X.pn) (hG : X.A.guards = some []) (gx : Gl X x) (hm : X.mg x = some (.ref f)) (kp : PySem.W.keepIn X.K (.ref f) = true) (bs : Binds X.K fd ps []) (tk : L2N.Takes X W) (ha : PA X (e :: es) t)
    (hdb : (x == ("__debug__" : Str)) = false) (he : starEach (e :: es) X.env = (false, eval e X.env) :: starEach es X.env) (hpl : (backTo pos (starEach es X.env)).any (·.1) = false) : PE X (.Call (.Name x p) (e :: es) [] pos) (tCallS sp (WE W) t) := by
  refine ⟨fun pins s st K Q I h => wpAny_Call_Name_kw (ld_glob I gx hm ?_ hdb)⟩
  refine PySem.W.callWith_K (h₀ := X.base) I.ok.mod.kin kp (thn (ha.run pos pins s st K _ I h) fun us s2 z => ?_) he hpl
  obtain ⟨vs, K2, I2, r2, q2⟩ := z
  exact ⟨I2.kIn, runC F hr hA hh hG tk bs I2 r2 q2⟩
end

/-! ### a list comprehension where an exception is handled -/
section
variable {X : Cx}
theorem block_startH {pins : List (Addr × Obj)} {σ : L2.St} {H : Hp} {s : Shared} {p : Addr × Obj} {scope : Scope} {own : List (Str × Nat)} {fp : List Addr} (I : Inv X pins σ H s) (hp : p ∈ X.pn) (ok : BlkOk X.N X.env.scope scope own) (hN : X.N.Nodup) (hfp : ∀ b ∈ fp, FpOk X pins H b ∧ b < s.heap.objs.size) :
    Inv (blkQ X (some p) s H scope (compEnvC scope (cellsFrom (s.heap.objs.size + 1) scope.names (cloFrom X.env.cells scope.names [])) s.heap.objs.size X.env) fp) [] (wipe σ (own.map (·.2))) H { s with heap := pushCells (s.heap.push { cls := .type "dict", data := .dict #[] }) scope.names } := by
  have J := block_start I ok hN hfp
  have P1 := I.pin p (List.mem_append_left _ hp)
  refine ⟨⟨J.ok.mod, J.ok.kind, J.ok.glob, J.ok.blt, J.ok.above, J.ok.inj, J.ok.has, J.ok.cab, J.ok.hd, J.ok.frames, J.ok.stk, J.ok.exf, J.ok.bs, J.ok.bsz, J.ok.noex, J.ok.exfs, J.ok.funs, J.ok.frf⟩, J.os, J.bare, J.base, J.loc, J.cell, J.free, J.freeC, fun q hq => ?_, J.hok, J.len⟩
  have eq : q = p := by simpa using (show q ∈ [p] ++ ([] : List (Addr × Obj)) from hq)
  rw [eq]
  exact ⟨pushCells_keeps _ _ _ _ (Heap.get?_push_of_some _ P1.1), P1.2.1, Nat.ne_of_lt (Heap.lt_size P1.1), fun hm => (List.mem_cons.mp (I.stkSub p.1 hm)).elim P1.2.2.1 P1.2.2.2.1, P1.2.2.2.2⟩
/-- the new list D; what is walked stands in the cells fp -/
theorem lc_hot {p : Addr × Obj} {pins : List (Addr × Obj)} {s : Shared} {σ : L2.St} {H : Hp} {Q : VK} {use : Option (Value → Sem Unit)} {Qf : Value → Shared → Prop} {pos' : Pos} {elt tg iter : Expr} {ifs : List Expr} {scope : Scope} {own : List (Str × Nat)} {pos : Pos} {wi : L2.TI} {g : L2.TG} {tt : L2.TT} {te : L2.TE} (hot : Hot1 X.A p ∧ p ∈ X.pn) (hN : X.N.Nodup) (hl : PIH X tg iter wi) (ok : BlkOk X.N X.env.scope scope own)
    (hg : ∀ (s : Shared) (H : Hp) (C : Addr) (cl : List (Str × Addr)) (fp : List Addr), PG (blkQ X (some p) s H scope (compEnvC scope cl C X.env) fp) tg g) (ht : ∀ (s : Shared) (H : Hp) (C : Addr) (cl : List (Str × Addr)) (fp : List Addr), PTs (blkQ X (some p) s H scope (compEnvC scope cl C X.env) fp) ifs tt)
    (he : ∀ (s : Shared) (H : Hp) (C : Addr) (cl : List (Str × Addr)) (fp : List Addr), PE (blkQ X (some p) s H scope (compEnvC scope cl C X.env) fp) elt te) (hs : ∀ x, foldedSetIterable iter X.env x = pure x) (I : Inv X pins σ H s) (h : tLc wi g tt te (own.map (·.2)) σ H Q)
    (hRR : ∀ D C s' m H', Inv X pins σ H' s' → Q (.ref D) H' → s'.heap.Ns C m → FpOk X pins H' C → compPost (model X.prog X.w) X.A X.xe use Qf (.ref D) C (.ok .next) s') :
    wpAny (model X.prog X.w) X.A (comprehension (.ListComp elt [⟨tg, iter, ifs, 0⟩] scope pos) scope X.env pos' (newList []) false (eval iter X.env) use) Qf X.xe s := by
  have cl : ∀ y ∈ scope.names, y.2 = .free → ∃ c, X.env.cells.lookup y.1 = some c := fun y hy e => (ok.free y hy e).elim (fun k => I.ok.has _ (.inl k)) fun k => I.ok.has _ (.inr k)
  refine wpAny_comprehension_free (use := use) rfl hs (closure_ok cl) ok.kind (fun y hy e => by rw [ok.uniq y hy, e]) (thn (hl.run pins s σ H _ I h) fun v s1 hv => thn hv fun itv s2 ⟨it, fp, tn, J, H1, eit, I2, T, t2, f2, q⟩ => ?_)
  subst eit
  refine wpAny_newObj_type (newEnv_comp ?_) (by show 0 ≤ sizeLine; decide)
  have lt2 : ∀ b ∈ fp, b < s2.heap.objs.size := fun b hb => let ⟨o, e, _⟩ := T.obj 0 s2.heap t2 b hb; Heap.lt_size e
  -- the new list
  generalize hD : s2.heap.objs.size = D
  have nD : H1 D = none := I2.hok.fresh (Nat.le_of_eq hD)
  obtain ⟨W, ⟨m0, w0⟩, turn⟩ := q D nD
  generalize hs3 : ({ s2 with heap := s2.heap.push { cls := .type "list", data := .seq ([] : List Value).toArray } } : Shared) = s3
  have e3 : s3.heap = s2.heap.push { cls := .type "list", data := .seq ([] : List Value).toArray } := by rw [← hs3]
  have I3 : Inv X pins σ (upd H1 D (.lst [])) s3 := by
    rw [← hs3]
    refine I2.laid (t' := s2.toks) (fun b o e => Heap.get?_push_of_some _ e) (Nat.le_of_eq hD) ⟨Nat.zero_le _, [], 0, .nil, ?_⟩
    rw [← hD]
    exact Heap.get?_push_size _ rfl
  have n3 : ∀ b ∈ fp, (upd H1 D (.lst [])) b = none := fun b hb => by
    have iD : b ≠ D := by rw [← hD]; exact Nat.ne_of_lt (lt2 b hb)
    rw [upd_ne iD]
    exact (f2 b hb).1
  have t3 : tn 0 s3.heap := T.keep 0 _ _ t2 fun b hb o e => by rw [e3]; exact Heap.get?_push_of_some _ e
  have fr : ∀ b ∈ fp, FpOk X pins (upd H1 D (.lst [])) b := fun b hb => ⟨n3 b hb, (f2 b hb).2⟩
  have lt3 : ∀ b ∈ fp, b < s3.heap.objs.size := fun b hb => by rw [e3, Heap.size_push]; exact Nat.lt_succ_of_lt (lt2 b hb)
  have I4 := block_startH I3 hot.2 ok hN (fp := fp) fun b hb => ⟨fr b hb, lt3 b hb⟩
  have pg := hg s3 (upd H1 D (.lst [])) s3.heap.objs.size (cellsFrom (s3.heap.objs.size + 1) scope.names (cloFrom X.env.cells scope.names [])) fp
  have pt := ht s3 (upd H1 D (.lst [])) s3.heap.objs.size (cellsFrom (s3.heap.objs.size + 1) scope.names (cloFrom X.env.cells scope.names [])) fp
  have pe := he s3 (upd H1 D (.lst [])) s3.heap.objs.size (cellsFrom (s3.heap.objs.size + 1) scope.names (cloFrom X.env.cells scope.names [])) fp
  show codeAny _ _ (.compStart (.ListComp elt [⟨tg, iter, ifs, 0⟩] scope pos) 0 (.ref it) (.ref D) (compEnvC scope (cellsFrom (s3.heap.objs.size + 1) scope.names (cloFrom X.env.cells scope.names [])) s3.heap.objs.size X.env)) (compPost (model X.prog X.w) X.A X.xe use Qf (.ref D) s3.heap.objs.size) { s3 with heap := pushCells (s3.heap.push { cls := .type "dict", data := .dict #[] }) scope.names }
  generalize hce : compEnvC scope (cellsFrom (s3.heap.objs.size + 1) scope.names (cloFrom X.env.cells scope.names [])) s3.heap.objs.size X.env = ce at I4 pg pt pe ⊢
  have cL : ce.locals = s3.heap.objs.size := by subst hce; rfl
  generalize hH3 : upd H1 D (.lst []) = H3 at I3 I4 pg pt pe w0 n3 fr
  generalize hs4 : ({ s3 with heap := pushCells (s3.heap.push { cls := .type "dict", data := .dict #[] }) scope.names } : Shared) = s4 at I4 ⊢
  have t4 : tn 0 s4.heap := T.keep 0 _ _ t3 fun b hb o e => by rw [← hs4]; exact pushCells_keeps _ _ _ _ (Heap.get?_push_of_some _ e)
  have hotB : HotC (blkQ X (some p) s3 H3 scope ce fp) := ⟨p, hot.1, List.mem_singleton.mpr rfl⟩
  have fpB : ∀ {σ' : L2.St} {H' : Hp} {s' : Shared}, Inv (blkQ X (some p) s3 H3 scope ce fp) [] σ' H' s' → (∀ b ∈ fp, H' b = none) → ∀ b ∈ fp, FpOk (blkQ X (some p) s3 H3 scope ce fp) [] H' b := fun {σ' H' s'} J n b hb => by
    have m1 : b ∈ (blkQ X (some p) s3 H3 scope ce fp).ex := hb
    refine ⟨n b hb, (J.ok.exf b m1).1, J.ok.exfs b m1, .inl m1, fun x c e => (J.ok.exf b m1).2 x c e, fun u hu => ?_⟩
    have : u = p := by simpa using (show u ∈ [p] ++ ([] : List (Addr × Obj)) from hu)
    rw [this]
    exact (fr b hb).2.2.2.2.2 p (List.mem_append_left _ hot.2)
  have loop : codeAny (model X.prog X.w) X.A (.compLoop (.ListComp elt [⟨tg, iter, ifs, 0⟩] scope pos) 0 (.ref it) (.ref D) ce) (compPost (model X.prog X.w) X.A X.xe use Qf (.ref D) s3.heap.objs.size) s4 := by
    refine compLoop_any (fun n s' => ∃ i H', Inv (blkQ X (some p) s3 H3 scope ce fp) [] (wipe σ (own.map (·.2))) H' s' ∧ tn i s'.heap ∧ (∀ b ∈ fp, H' b = none) ∧ W i n H') ?_ m0 ⟨0, H3, I4, t4, n3, w0⟩
    rintro n s5 ⟨i, H5, I5, t5, n5, w5⟩
    rcases turn i n H5 w5 with ⟨stop, done⟩ | ⟨go, Nx, less, step⟩
    · have td := T.done (blkQ X (some p) s3 H3 scope ce fp) rfl rfl rfl hotB i [] s5 _ H5 (fun _ _ => False) I5 (fpB I5 n5) t5 stop
      refine thnF td fun r s6 ⟨hr, I6⟩ => ?_
      subst hr
      have I7 : Inv X pins σ H5 s6 := I3.call' (ch := fp) I6.os I6.base I6.hok I6.bare fun b hb => ⟨(fr b hb).2.2.2.1, (fr b hb).2.1, (fr b hb).2.2.2.2.1, (fr b hb).2.2.2.2.2⟩
      have nC : H5 s3.heap.objs.size = none := by
        have z : H5 ce.locals = none := I6.free
        rwa [cL] at z
      obtain ⟨m, hn, _⟩ := I6.loc
      have hn : s6.heap.Ns ce.locals m := hn
      rw [cL] at hn
      exact hRR D s3.heap.objs.size s6 m H5 I7 done hn (I3.fpOk (H' := H5) (Nat.le_refl _) nC)
    · have ti := T.item (blkQ X (some p) s3 H3 scope ce fp) rfl rfl rfl hotB i [] s5 _ H5 (fun _ _ => False) I5 (fpB I5 n5) t5 go
      refine thnF ti fun r s6 ⟨u, hr, h6⟩ => ?_
      subst hr
      refine thnF h6 fun _ s7 ⟨x, H7, I7, r7, y7, t7, n7⟩ => ?_
      have I8 := I7.pinned (fpB I7 n7) (T.obj (i + 1) s7.heap t7)
      have fin : ∀ {s' : Shared} {σ8 : L2.St} {H' : Hp}, wipe σ8 (own.map (·.2)) = wipe σ (own.map (·.2)) → Inv (blkQ X (some p) s3 H3 scope ce fp) ([] ++ pinsAt fp s7.heap) σ8 H' s' → Nx H' → ∃ m, m < n ∧ ∃ i H', Inv (blkQ X (some p) s3 H3 scope ce fp) [] (wipe σ (own.map (·.2))) H' s' ∧ tn i s'.heap ∧ (∀ b ∈ fp, H' b = none) ∧ W i m H' := fun {s' σ8 H'} hw J nx => by
        obtain ⟨m', hm, w'⟩ := less H' nx
        have z : ∀ b ∈ fp, ∀ o, s7.heap.get? b = some o → s'.heap.get? b = some o ∧ H' b = none := fun b hb o e => by
          have z := J.pin (b, o) (List.mem_append_right _ (List.mem_append_right _ (mem_pinsAt (fp := fp) hb e)))
          exact ⟨z.1, z.2.1⟩
        have hl : (wipe σ (own.map (·.2))).length = σ8.length := by rw [← hw, wipe_length]
        refine ⟨m', hm, i + 1, H', (J.unpinned (pins := [])).weak hl (fun j v e => ?_), T.keep (i + 1) _ _ t7 fun b hb o e => (z b hb o e).1, fun b hb => ?_, w'⟩
        · rw [← hw] at e
          exact (wipe_some e).1
        · obtain ⟨o, e, _⟩ := T.obj (i + 1) s7.heap t7 b hb
          exact (z b hb o e).2
      refine thnF (pg.run _ s7 _ H7 x u _ I8 r7 (step x H7 y7)) fun _ s8 ⟨σ8, H8, I9, hw8, q8⟩ => ?_
      refine thnF (pt.run _ s8 σ8 H8 _ I9 q8) fun b s9 ⟨H9, I10, q9⟩ => ?_
      cases b with
      | false =>
        simp only [Bool.false_eq_true, if_false] at q9 ⊢
        exact fin hw8 I10 q9
      | true =>
        simp only [if_true] at q9 ⊢
        refine thnF (pe.run _ s9 σ8 H9 _ I10 q9) fun z s10 ⟨yv, H10, I11, r10, acc, hD10, hz10, nx⟩ => ?_
        exact app_ok (X := blkQ X (some p) s3 H3 scope ce fp) I11 hD10 hz10 r10 fun s11 I12 => fin hw8 I12 nx
  exact codeAny_compStart_list loop (T.self _ 0 _ _ _ t4 loop)
theorem pe_lcHot {p : Addr × Obj} {elt tg iter : Expr} {ifs : List Expr} {scope : Scope} {own : List (Str × Nat)} {pos : Pos} {wi : L2.TI} {g : L2.TG} {tt : L2.TT} {te : L2.TE} (hot : Hot1 X.A p ∧ p ∈ X.pn) (hN : X.N.Nodup) (hl : PIH X tg iter wi) (ok : BlkOk X.N X.env.scope scope own)
    (hg : ∀ (s : Shared) (H : Hp) (C : Addr) (cl : List (Str × Addr)) (fp : List Addr), PG (blkQ X (some p) s H scope (compEnvC scope cl C X.env) fp) tg g) (ht : ∀ (s : Shared) (H : Hp) (C : Addr) (cl : List (Str × Addr)) (fp : List Addr), PTs (blkQ X (some p) s H scope (compEnvC scope cl C X.env) fp) ifs tt)
    (he : ∀ (s : Shared) (H : Hp) (C : Addr) (cl : List (Str × Addr)) (fp : List Addr), PE (blkQ X (some p) s H scope (compEnvC scope cl C X.env) fp) elt te) (hs : ∀ x, foldedSetIterable iter X.env x = pure x) : PE X (.ListComp elt [⟨tg, iter, ifs, 0⟩] scope pos) (tLc wi g tt te (own.map (·.2))) := ⟨fun pins s σ H Q I h => by
  rw [eval_ListComp]
  refine lc_hot hot hN hl ok hg ht he hs I h fun D C s' m H' I' q hn f => ⟨m, hn, fun h'' sb => ?_⟩
  obtain ⟨f0, f1, f2, f3, f4, f5⟩ := f
  exact ⟨.ref D, H', I'.turned (t' := s'.toks) (fun b o hb e => (sb.2 b hb).trans e) f0 f1 f3 f4 f5, rfl, q⟩⟩
/-- name = [..] on one line -/
theorem ps_setLcHot {p : Addr × Obj} {i : Nat} {y : Str} {py : Pos} {elt tg iter : Expr} {ifs : List Expr} {scope : Scope} {own : List (Str × Nat)} {pos spos : Pos} {wi : L2.TI} {g : L2.TG} {tt : L2.TT} {te : L2.TE} (hot : Hot1 X.A p ∧ p ∈ X.pn) (hN : X.N.Nodup) (hy : X.N[i]? = some y) (hyl : X.env.scope.names.lookup y = some .local)
    (hsw : swapsWith (.ListComp elt [⟨tg, iter, ifs, 0⟩] scope pos) (some (.Name y py)) spos.line X.env = pure true) (hl : PIH X tg iter wi) (ok : BlkOk X.N X.env.scope scope own)
    (hg : ∀ (s : Shared) (H : Hp) (C : Addr) (cl : List (Str × Addr)) (fp : List Addr), PG (blkQ X (some p) s H scope (compEnvC scope cl C X.env) fp) tg g) (ht : ∀ (s : Shared) (H : Hp) (C : Addr) (cl : List (Str × Addr)) (fp : List Addr), PTs (blkQ X (some p) s H scope (compEnvC scope cl C X.env) fp) ifs tt)
    (he : ∀ (s : Shared) (H : Hp) (C : Addr) (cl : List (Str × Addr)) (fp : List Addr), PE (blkQ X (some p) s H scope (compEnvC scope cl C X.env) fp) elt te) (hs : ∀ x, foldedSetIterable iter X.env x = pure x) : PS X (.Assign [.Name y py] (.ListComp elt [⟨tg, iter, ifs, 0⟩] scope pos) spos) (tAsg (tLc wi g tt te (own.map (·.2))) (gName i)) := ⟨fun pins s σ H D I h => by
  rw [exec_Assign_Name_used _ _ _ _ hsw]
  refine wpAny_bind (wpAny_standAt (wpAny_bind ?_))
  have h : tLc wi g tt te (own.map (·.2)) σ H (fun x H1 => gName i x σ H1 D.nx) := h
  refine wpAny_bind (thn (lc_hot (use := some (assign (.Name y py) X.env)) (Qf := fun _ s' => SP X pins D .next s') hot hN hl ok hg ht he hs I h fun L C s' m H' I' q hn f => ?_) fun _ s' hq => wpAny_pure (wpAny_pure hq))
  obtain ⟨f0, f1, f2, f3, f4, f5⟩ := f
  show wpAny _ _ (assign (.Name y py) X.env (.ref L)) _ _ _
  refine wpAny_assign_Name (store_ok2 (v := V.ref L) I' hN hy (.inl hyl) rfl (fun s2 I2 ⟨a, sb, ha⟩ => ⟨m, hn.sameBut sb ?_, fun h3 sb3 => ?_⟩) (.inr hyl))
  · rcases ha with z | z
    · rw [z]; exact f1
    · exact fun e => f4 y a z e.symm
  · exact ⟨_, H', I2.turned (t' := s2.toks) (fun b o hb e => (sb3.2 b hb).trans e) f0 f1 f3 f4 f5, q⟩⟩
end
theorem hunits {k : Nat} {A : Around} (r : RoomH k A) : A.units + 64 < cLine := by have := r.un; omega
/-! ### readings over the blocks -/
def bEQ (X : Cx) (hp : HP) (scope : Scope) (e : Expr) : L2.TE := fun st K Q => ∀ s0 H0 C cl fp, cE (blkQ X hp s0 H0 scope (compEnvC scope cl C X.env) fp) e st K Q
def bTQ (X : Cx) (hp : HP) (scope : Scope) (ifs : List Expr) : L2.TT := fun st K Q => ∀ s0 H0 C cl fp, cTs (blkQ X hp s0 H0 scope (compEnvC scope cl C X.env) fp) ifs st K Q
theorem bEQ_pe {X : Cx} {hp : HP} {scope : Scope} {e : Expr} (s0 : Shared) (H0 : Hp) (C : Addr) (cl : List (Str × Addr)) (fp : List Addr) : PE (blkQ X hp s0 H0 scope (compEnvC scope cl C X.env) fp) e (bEQ X hp scope e) := ⟨fun pins s _ _ _ I h => h s0 H0 C cl fp pins s I⟩
theorem bTQ_pts {X : Cx} {hp : HP} {scope : Scope} {ifs : List Expr} (s0 : Shared) (H0 : Hp) (C : Addr) (cl : List (Str × Addr)) (fp : List Addr) : PTs (blkQ X hp s0 H0 scope (compEnvC scope cl C X.env) fp) ifs (bTQ X hp scope ifs) := ⟨fun pins s _ _ _ I h => h s0 H0 C cl fp pins s I⟩
theorem bEQ_pe0 {X : Cx} {scope : Scope} {e : Expr} (s0 : Shared) (H0 : Hp) (C : Addr) (cl : List (Str × Addr)) (fp : List Addr) : PE (X.blk s0 H0 scope (compEnvC scope cl C X.env) fp) e (bEQ X none scope e) := bEQ_pe (X := X) (hp := none) s0 H0 C cl fp
theorem bTQ_pts0 {X : Cx} {scope : Scope} {ifs : List Expr} (s0 : Shared) (H0 : Hp) (C : Addr) (cl : List (Str × Addr)) (fp : List Addr) : PTs (X.blk s0 H0 scope (compEnvC scope cl C X.env) fp) ifs (bTQ X none scope ifs) := bTQ_pts (X := X) (hp := none) s0 H0 C cl fp
end Y

/-! ### walking dicts while an exception is handled -/
namespace HotX
open PySem PySem.Spec PyProof.Rows L2 L2H
section
variable {prog : Program} {w : World} {A : Around} {E : Value → Shared → Prop} {s : Shared}
theorem hot_key_end {it d x1 : Addr} {i n ep : Nat} {od : Obj} {es : Array DictEntry} {Q : Option Value → Shared → Prop} (hot : HotAt A x1 s.heap) (hx1 : x1 ≠ it) (hit : s.heap.IsKeyIter it d i n ep) (hod : s.heap.get? d = some od) (hdd : od.data = .dict es ep)
    (hsz : es.size = n) (hge : n ≤ i) (hQ : ∀ h', Heap.ExtBut it s.heap h' → Q none { s with heap := h' }) : wpAny (model prog w) A (pyNext (.ref it)) Q E s := by
  obtain ⟨hh, o1, vs1, h1, d1, c1⟩ := hot
  obtain ⟨o, ho, hc, hd⟩ := id hit
  unfold pyNext
  refine wpAny_bind (wpAny_attempt (wpAny_callSpecial?_slot (name := Str.ofString "__next__") hit.typeIs PySem.F.slot_dict_keyiterator_next
    (wpAny_call_entry PySem.F.slot_dict_keyiterator_next hit.typeIs PySem.F.entry_dict_keyiterator_next ?_ (PySem.F.args_dict_keyiterator_next_1 _))))
  refine wpAny_bind (wpAny_pure ?_)
  refine wpAny_bind ?_
  refine wpAny_bind ?_
  first | refine wpAny_bind (wpAny_typeNameOfWhole_keyiter hit.typeIs (wpAny_pure ?_)) | refine wpAny_bind (wpAny_typeNameOf_keyiter hit.typeIs (wpAny_pure ?_))
  refine wpAny_bind (wpAny_fieldsOf ho hd ?_)
  have hown : Builtin.Dict_items.ownsTuple "dict_keyiterator" = false := by decide
  simp only [hown, Bool.false_eq_true, if_false]
  show wpAny _ _ (if (Value.ref d == Value.none) = true then _ else _) _ _ s
  rw [if_neg (show ¬ ((Value.ref d == Value.none) = true) from Bool.false_ne_true)]
  refine wpAny_bind (wpAny_pure ?_)
  refine wpAny_bind (wpAny_dictEntries hod hdd ?_)
  rw [if_neg (by rw [hsz]; simp)]
  refine wpAny_bind (wpAny_pure ?_)
  refine wpAny_bind (wpAny_dictEpoch hod hdd ?_)
  rw [if_neg (by simp)]
  refine wpAny_pure ?_
  have hge' : es.size ≤ i := by rw [hsz]; exact hge
  simp only [show ¬ ((i : Int) < 0) from by omega, if_false, Int.toNat_natCast, Array.getElem?_eq_none hge']
  refine wpAny_bind ?_
  first | refine wpAny_bind (wpAny_typeNameOfWhole_keyiter hit.typeIs (wpAny_pure ?_)) | refine wpAny_bind (wpAny_typeNameOf_keyiter hit.typeIs (wpAny_pure ?_))
  show wpAny _ _ (setField (.ref it) 0 .none >>= _) _ _ s
  refine wpAny_bind (wpAny_setField ho hd (by simp) ?_)
  show wpAny _ _ (newExc (.type "StopIteration") [] >>= _) _ _ _
  refine wpAny_bind ?_
  simp only [newExc, newTuple]
  refine wpAny_bind (wpAny_newObj_type ?_ (by size_fits))
  refine wpAny_bind (m := firstArgMember _ _) (wpAny_of_eq (a := Value.none) (by first | rfl | (simp only [firstArgMember]; rfl)) ?_)
  refine wpAny_newObj_type ?_ (by size_fits)
  have k1 : ∀ {f : Obj → Obj}, (s.heap.update it f).get? x1 = some o1 := fun {f} => by rw [Heap.get?_update_other _ _ hx1.symm]; exact h1
  refine raiseNew_hot ⟨hh, o1, vs1, Heap.get?_push_of_some _ (Heap.get?_push_of_some _ k1), d1, c1⟩ (Nat.ne_of_lt (Heap.lt_size (Heap.get?_push_of_some _ k1))) (Heap.get?_push_size _ rfl) rfl (by first | (simp; done) | (simp; omega) | (simp only [Array.size_append]; simp; omega)) ?_
  refine wpAny_bind (wpAny_isInstance (T := "StopIteration") (b := true) ⟨_, Heap.get?_update_self _ (Heap.get?_push_size _ rfl) rfl, rfl⟩ isSubtype_stop ?_)
  refine wpAny_pure (hQ _ fun b o' hb e => ?_)
  have k2 : ∀ {f : Obj → Obj}, (s.heap.update it f).get? b = some o' := fun {f} => by rw [Heap.get?_update_other _ _ (Ne.symm hb)]; exact e
  rw [Heap.get?_update_other _ _ (Nat.ne_of_gt (Heap.lt_size (Heap.get?_push_of_some _ k2)))]
  exact Heap.get?_push_of_some _ (Heap.get?_push_of_some _ k2)
end
section
variable {P : Program} {w : World} {K : PySem.W.Frag} {tg : Expr} {d : Addr} {o : Obj} {es : Array DictEntry} {ep : Nat}
theorem turn_keysH {kvs : List (Key × V)} (it : Addr) (hod : o.data = .dict es ep) : TurnH P w K tg (Itk d o kvs) [it] it (fun i h => h.IsKeyIter it d i kvs.length ep) where
  mem := by simp
  obj := (turn_keys (P := P) (w := w) (K := K) (tg := tg) (d := d) (kvs := kvs) it hod).obj
  keep := (turn_keys (P := P) (w := w) (K := K) (tg := tg) (d := d) (kvs := kvs) it hod).keep
  item := by
    intro X hP hw hK hc i pins s σ H E I hf st hg
    subst hP hw hK
    obtain ⟨hd, hi⟩ := hg
    obtain ⟨f0, f1, f2, f3, f4, f5⟩ := hf it (by simp)
    obtain ⟨hs, hgd, hx, es', ep', vs, hdt, hsz, kv, hm⟩ := I.frzK hd
    obtain ⟨rfl, rfl⟩ := dict_ep hod hdt
    obtain ⟨⟨k, v⟩, hkv⟩ : ∃ p, kvs[i]? = some p := ⟨kvs[i], List.getElem?_eq_getElem hi⟩
    obtain ⟨u, hu, ru⟩ := kv_get kv hkv
    have hl : kvs.length = vs.length := Paired.length kv
    rw [hl] at st
    refine wpAny_pyNext_dict_item st hm hu fun key h' hkey st' sb => ?_
    have I1 : Inv X pins σ H { s with heap := h' } := I.turned (t' := s.toks) (fun b ob hb e => (sb.2 b hb).trans e) f0 f1 f3 f4 f5
    obtain ⟨oi, e, c, dd⟩ := id st'
    refine ⟨key, rfl, go_of (s := { s with heap := h' }) e c dd (by decide) ⟨kV k, H, I1, relV_key (show keyIs k key = true from hkey), ⟨rfl, k, v, hkv, rfl⟩, ?_, fun b hb => (hf b hb).1⟩⟩
    show h'.IsKeyIter it d (i + 1) kvs.length _
    rw [hl]
    exact st'
  done := by
    intro X hP hw hK hc i pins s σ H E I hf st hg
    subst hP hw hK
    obtain ⟨hd, hi⟩ := hg
    obtain ⟨f0, f1, f2, f3, f4, f5⟩ := hf it (by simp)
    obtain ⟨hs, hgd, hx, es', ep', vs, hdt, hsz, kv, hm⟩ := I.frzK hd
    obtain ⟨rfl, rfl⟩ := dict_ep hod hdt
    obtain ⟨q, ⟨hh, v1, e1, c1⟩, hp⟩ := hc
    have z := (I.pin q (List.mem_append_left _ hp)).1
    exact hot_key_end ⟨hh, q.2, v1, z, e1, c1⟩ (f5 q (List.mem_append_left _ hp)) st hgd hdt hsz hi fun h' eb => ⟨rfl, I.turned (t' := s.toks) (fun b o hb e => eb b o hb e) f0 f1 f3 f4 f5⟩
  self := fun A i s Q E st h => wpAny_pyIter_keyiter st h
end
end HotX
namespace HotX
open PySem PySem.Spec PyProof.Rows L2 L2H
section
variable {X : Cx} {tg e : Expr} {apos cpos : Pos} {td : L2.TE}
theorem pi_oneH {pins : List (Addr × Obj)} {σ : L2.St} {H1 : Hp} {s1 : Shared} {R : It → Hp → Prop} {J : It} {tn : Nat → Heap → Prop} {tk : Nat} (I1 : Inv X pins σ H1 s1) (ob : Obj)
    (T : TurnH X.prog X.w X.K tg J [s1.heap.objs.size] s1.heap.objs.size tn) (st : tn 0 (s1.heap.push ob)) (q : R J H1) :
    PIEH X pins σ tg R (.ref s1.heap.objs.size) { s1 with heap := s1.heap.push ob, toks := tk } :=
  ⟨s1.heap.objs.size, [s1.heap.objs.size], tn, J, H1, rfl, I1.kept fun b o e => Heap.get?_push_of_some _ e, T, st, fun b hb => by
    have e : b = s1.heap.objs.size := by simpa using hb
    subst e
    exact I1.fpOk (Nat.le_refl _) (I1.hok.fresh (Nat.le_refl _)), q⟩
def iKeysH (td : L2.TE) : L2.TI := fun σ H R => td σ H fun x H1 => ∃ d o kvs, x = .ref d ∧ H1 d = some (.frz o (.dK kvs)) ∧ R (Itk d o kvs) H1
theorem pi_keysH (he : PE X e td) : PIH X tg e (iKeysH td) := by
  refine ⟨fun pins s σ H R I h => ?_⟩
  refine thn (he.run pins s σ H _ I h) fun u s1 ⟨x, H1, I1, rx, d, o, kvs, ex, hd, q⟩ => ?_
  subst ex
  obtain rfl : u = Value.ref d := rx
  obtain ⟨hs, hgd, hx, es, ep, vs, hdt, hsz, kv, hm⟩ := I1.frzK hd
  refine iter_keys hs hgd hx hdt (pi_oneH (tk := s1.toks) I1 _ (turn_keysH _ hdt) ⟨_, Heap.get?_push_size _ rfl, rfl, ?_⟩ q)
  rw [hsz] <;> rfl
end
end HotX
namespace HotX
open PySem PySem.Spec PyProof.Rows L2 L2H
section
variable {X : Cx} {pos : Pos}
/-- x, y = a, b, both plain, while an exception is handled -/
theorem ps_parQ {i j : Nat} {x y : Str} {a b : Expr} {ta : L2.TA} {px py pt : Pos} {kt k2 pt2} (hc : HotC X) (hN : X.N.Nodup) (hi : X.N[i]? = some x) (hj : X.N[j]? = some y) (hij : i ≠ j)
    (hx : X.env.scope.names.lookup x = some .local) (hy : X.env.scope.names.lookup y = some .local) (ha : PA X [a, b] ta)
    (hw : swappedStores [.Tuple [.Name x px, .Name y py] kt pt] (.Tuple [a, b] k2 pt2) X.env = pure (some [x, y]))
    (hs : swapsWithSole [.Tuple [.Name x px, .Name y py] kt pt] (.Tuple [a, b] k2 pt2) pos.line X.env = pure false := by rfl) :
    PS X (.Assign [.Tuple [.Name x px, .Name y py] kt pt] (.Tuple [a, b] k2 pt2) pos) (tPar i j ta) := by
  refine ⟨fun pins s σ H D I h => ?_⟩
  rw [exec_Assign_arm]
  refine wpAny_bind (wpAny_standAt ?_)
  rw [hs]
  refine wpAny_bind (wpAny_pure ?_)
  rw [if_neg (by decide)]
  refine wpAny_bind (Tuple_ (thn (ha.run _ pins s σ H _ I h) fun us s1 ⟨vs, H1, I1, r1, q1⟩ => ?_))
  obtain ⟨v, w, e1, q1⟩ := q1
  subst e1
  obtain ⟨u1, u2, rfl, rv, rw'⟩ : ∃ u1 u2, us = [u1, u2] ∧ RelV v u1 ∧ RelV w u2 := by
    cases r1 with
    | cons p q =>
      cases q with
      | cons p' q' =>
        cases q'
        exact ⟨_, _, rfl, p, p'⟩
  refine wpAny_newObj_type ?_ (by show 2 ≤ sizeLine; decide)
  have I2 : Inv X pins σ H1 { s1 with heap := s1.heap.push { cls := .type "tuple", data := .seq [u1, u2].toArray } } := I1.kept (t' := s1.toks) fun b o e => Heap.get?_push_of_some _ e
  rw [hw]
  refine wpAny_bind (wpAny_pure ?_)
  show wpAny (model X.prog X.w) X.A (do rule "assign.swapped-stores"; let items ← unpackItems (.ref s1.heap.objs.size) 2 none; assignInOrder [fun v => bindName X.env y v, fun v => bindName X.env x v] items.reverse; pure Flow.next) _ _ _
  obtain ⟨x1, hot⟩ := hc.at I2
  refine wpAny_bind (wpAny_rule (wpAny_bind (hot_unpackItems (items := #[u1, u2]) hot (IsTup.new s1.heap _) fun h' hx' => ?_)))
  have I3 := I2.kept (h' := h') (t' := s1.toks) fun b o e => hx' b o (Nat.ne_of_lt (Heap.lt_size e)) e
  show wpAny _ _ (assignInOrder [fun v => bindName X.env y v, fun v => bindName X.env x v] [u2, u1] >>= fun _ => pure Flow.next) _ _ _
  refine wpAny_bind (assignInOrder_cons (wpAny_bindName (store_ok I3 hN hj (.inl hy) rw' (fun s2 I4 => ?_) (.inr hy))))
  refine assignInOrder_cons (wpAny_bindName (store_ok I4 hN hi (.inl hx) rv (fun s3 I5 => assignInOrder_nil (wpAny_pure ?_)) (.inr hx)))
  rw [List.set_comm _ _ (Ne.symm hij)] at I5
  exact ⟨_, H1, I5, q1⟩
end
end HotX
namespace Y
open PySem PySem.Spec PyProof.Rows L2 L2H SX Z HotX
section
variable {X : Cx}
/-- the new dict D; what is walked stands in the cells fp -/
theorem dc_hot {p : Addr × Obj} {pins : List (Addr × Obj)} {s : Shared} {σ : L2.St} {H : Hp} {Q : VK} {use : Option (Value → Sem Unit)} {Qf : Value → Shared → Prop} {pos' : Pos} {kx vx tg iter : Expr} {ifs : List Expr} {scope : Scope} {own : List (Str × Nat)} {pos : Pos} {wi : L2.TI} {g : L2.TG} {tt : L2.TT} {tk tv : L2.TE} (hot : Hot1 X.A p ∧ p ∈ X.pn) (hN : X.N.Nodup) (hl : PIH X tg iter wi) (ok : BlkOk X.N X.env.scope scope own)
    (hg : ∀ (s : Shared) (H : Hp) (C : Addr) (cl : List (Str × Addr)) (fp : List Addr), PG (blkQ X (some p) s H scope (compEnvC scope cl C X.env) fp) tg g) (ht : ∀ (s : Shared) (H : Hp) (C : Addr) (cl : List (Str × Addr)) (fp : List Addr), PTs (blkQ X (some p) s H scope (compEnvC scope cl C X.env) fp) ifs tt)
    (hk : ∀ (s : Shared) (H : Hp) (C : Addr) (cl : List (Str × Addr)) (fp : List Addr), PE (blkQ X (some p) s H scope (compEnvC scope cl C X.env) fp) kx tk)
    (he : ∀ (s : Shared) (H : Hp) (C : Addr) (cl : List (Str × Addr)) (fp : List Addr), PE (blkQ X (some p) s H scope (compEnvC scope cl C X.env) fp) vx tv) (hs : ∀ x, foldedSetIterable iter X.env x = pure x) (I : Inv X pins σ H s) (h : tDc wi g tt tk tv (own.map (·.2)) σ H Q)
    (hRR : ∀ D C s' m H', Inv X pins σ H' s' → Q (.ref D) H' → s'.heap.Ns C m → FpOk X pins H' C → compPost (model X.prog X.w) X.A X.xe use Qf (.ref D) C (.ok .next) s') :
    wpAny (model X.prog X.w) X.A (comprehension (.DictComp kx vx [⟨tg, iter, ifs, 0⟩] scope pos) scope X.env pos' newDict false (eval iter X.env) use) Qf X.xe s := by
  have cl : ∀ y ∈ scope.names, y.2 = .free → ∃ c, X.env.cells.lookup y.1 = some c := fun y hy e => (ok.free y hy e).elim (fun k => I.ok.has _ (.inl k)) fun k => I.ok.has _ (.inr k)
  refine wpAny_comprehension_free (use := use) rfl hs (closure_ok cl) ok.kind (fun y hy e => by rw [ok.uniq y hy, e]) (thn (hl.run pins s σ H _ I h) fun v s1 hv => thn hv fun itv s2 ⟨it, fp, tn, J, H1, eit, I2, T, t2, f2, q⟩ => ?_)
  subst eit
  refine wpAny_newObj_type (newEnv_comp ?_)
  have lt2 : ∀ b ∈ fp, b < s2.heap.objs.size := fun b hb => let ⟨o, e, _⟩ := T.obj 0 s2.heap t2 b hb; Heap.lt_size e
  -- the new list
  generalize hD : s2.heap.objs.size = D
  have nD : H1 D = none := I2.hok.fresh (Nat.le_of_eq hD)
  obtain ⟨W, ⟨m0, w0⟩, turn⟩ := q D nD
  generalize hs3 : ({ s2 with heap := s2.heap.push { cls := .type "dict", data := .dict #[] } } : Shared) = s3
  have e3 : s3.heap = s2.heap.push { cls := .type "dict", data := .dict #[] } := by rw [← hs3]
  have I3 : Inv X pins σ (upd H1 D (.dK [])) s3 := by
    rw [← hs3]
    refine I2.laid (t' := s2.toks) (fun b o e => Heap.get?_push_of_some _ e) (Nat.le_of_eq hD) ?_
    rw [← hD]
    exact dk_empty s2.heap I2.big
  have n3 : ∀ b ∈ fp, (upd H1 D (.dK [])) b = none := fun b hb => by
    have iD : b ≠ D := by rw [← hD]; exact Nat.ne_of_lt (lt2 b hb)
    rw [upd_ne iD]
    exact (f2 b hb).1
  have t3 : tn 0 s3.heap := T.keep 0 _ _ t2 fun b hb o e => by rw [e3]; exact Heap.get?_push_of_some _ e
  have fr : ∀ b ∈ fp, FpOk X pins (upd H1 D (.dK [])) b := fun b hb => ⟨n3 b hb, (f2 b hb).2⟩
  have lt3 : ∀ b ∈ fp, b < s3.heap.objs.size := fun b hb => by rw [e3, Heap.size_push]; exact Nat.lt_succ_of_lt (lt2 b hb)
  have I4 := block_startH I3 hot.2 ok hN (fp := fp) fun b hb => ⟨fr b hb, lt3 b hb⟩
  have pg := hg s3 (upd H1 D (.dK [])) s3.heap.objs.size (cellsFrom (s3.heap.objs.size + 1) scope.names (cloFrom X.env.cells scope.names [])) fp
  have pt := ht s3 (upd H1 D (.dK [])) s3.heap.objs.size (cellsFrom (s3.heap.objs.size + 1) scope.names (cloFrom X.env.cells scope.names [])) fp
  have pk := hk s3 (upd H1 D (.dK [])) s3.heap.objs.size (cellsFrom (s3.heap.objs.size + 1) scope.names (cloFrom X.env.cells scope.names [])) fp
  have pe := he s3 (upd H1 D (.dK [])) s3.heap.objs.size (cellsFrom (s3.heap.objs.size + 1) scope.names (cloFrom X.env.cells scope.names [])) fp
  show codeAny _ _ (.compStart (.DictComp kx vx [⟨tg, iter, ifs, 0⟩] scope pos) 0 (.ref it) (.ref D) (compEnvC scope (cellsFrom (s3.heap.objs.size + 1) scope.names (cloFrom X.env.cells scope.names [])) s3.heap.objs.size X.env)) (compPost (model X.prog X.w) X.A X.xe use Qf (.ref D) s3.heap.objs.size) { s3 with heap := pushCells (s3.heap.push { cls := .type "dict", data := .dict #[] }) scope.names }
  generalize hce : compEnvC scope (cellsFrom (s3.heap.objs.size + 1) scope.names (cloFrom X.env.cells scope.names [])) s3.heap.objs.size X.env = ce at I4 pg pt pk pe ⊢
  have cL : ce.locals = s3.heap.objs.size := by subst hce; rfl
  generalize hH3 : upd H1 D (.dK []) = H3 at I3 I4 pg pt pk pe w0 n3 fr
  generalize hs4 : ({ s3 with heap := pushCells (s3.heap.push { cls := .type "dict", data := .dict #[] }) scope.names } : Shared) = s4 at I4 ⊢
  have t4 : tn 0 s4.heap := T.keep 0 _ _ t3 fun b hb o e => by rw [← hs4]; exact pushCells_keeps _ _ _ _ (Heap.get?_push_of_some _ e)
  have hotB : HotC (blkQ X (some p) s3 H3 scope ce fp) := ⟨p, hot.1, List.mem_singleton.mpr rfl⟩
  have fpB : ∀ {σ' : L2.St} {H' : Hp} {s' : Shared}, Inv (blkQ X (some p) s3 H3 scope ce fp) [] σ' H' s' → (∀ b ∈ fp, H' b = none) → ∀ b ∈ fp, FpOk (blkQ X (some p) s3 H3 scope ce fp) [] H' b := fun {σ' H' s'} J n b hb => by
    have m1 : b ∈ (blkQ X (some p) s3 H3 scope ce fp).ex := hb
    refine ⟨n b hb, (J.ok.exf b m1).1, J.ok.exfs b m1, .inl m1, fun x c e => (J.ok.exf b m1).2 x c e, fun u hu => ?_⟩
    have : u = p := by simpa using (show u ∈ [p] ++ ([] : List (Addr × Obj)) from hu)
    rw [this]
    exact (fr b hb).2.2.2.2.2 p (List.mem_append_left _ hot.2)
  have loop : codeAny (model X.prog X.w) X.A (.compLoop (.DictComp kx vx [⟨tg, iter, ifs, 0⟩] scope pos) 0 (.ref it) (.ref D) ce) (compPost (model X.prog X.w) X.A X.xe use Qf (.ref D) s3.heap.objs.size) s4 := by
    refine compLoop_anyD (fun n s' => ∃ i H', Inv (blkQ X (some p) s3 H3 scope ce fp) [] (wipe σ (own.map (·.2))) H' s' ∧ tn i s'.heap ∧ (∀ b ∈ fp, H' b = none) ∧ W i n H') ?_ m0 ⟨0, H3, I4, t4, n3, w0⟩
    rintro n s5 ⟨i, H5, I5, t5, n5, w5⟩
    rcases turn i n H5 w5 with ⟨stop, done⟩ | ⟨go, Nx, less, step⟩
    · have td := T.done (blkQ X (some p) s3 H3 scope ce fp) rfl rfl rfl hotB i [] s5 _ H5 (fun _ _ => False) I5 (fpB I5 n5) t5 stop
      refine thnF td fun r s6 ⟨hr, I6⟩ => ?_
      subst hr
      have I7 : Inv X pins σ H5 s6 := I3.call' (ch := fp) I6.os I6.base I6.hok I6.bare fun b hb => ⟨(fr b hb).2.2.2.1, (fr b hb).2.1, (fr b hb).2.2.2.2.1, (fr b hb).2.2.2.2.2⟩
      have nC : H5 s3.heap.objs.size = none := by
        have z : H5 ce.locals = none := I6.free
        rwa [cL] at z
      obtain ⟨m, hn, _⟩ := I6.loc
      have hn : s6.heap.Ns ce.locals m := hn
      rw [cL] at hn
      exact hRR D s3.heap.objs.size s6 m H5 I7 done hn (I3.fpOk (H' := H5) (Nat.le_refl _) nC)
    · have ti := T.item (blkQ X (some p) s3 H3 scope ce fp) rfl rfl rfl hotB i [] s5 _ H5 (fun _ _ => False) I5 (fpB I5 n5) t5 go
      refine thnF ti fun r s6 ⟨u, hr, h6⟩ => ?_
      subst hr
      refine thnF h6 fun _ s7 ⟨x, H7, I7, r7, y7, t7, n7⟩ => ?_
      have I8 := I7.pinned (fpB I7 n7) (T.obj (i + 1) s7.heap t7)
      have fin : ∀ {s' : Shared} {σ8 : L2.St} {H' : Hp}, wipe σ8 (own.map (·.2)) = wipe σ (own.map (·.2)) → Inv (blkQ X (some p) s3 H3 scope ce fp) ([] ++ pinsAt fp s7.heap) σ8 H' s' → Nx H' → ∃ m, m < n ∧ ∃ i H', Inv (blkQ X (some p) s3 H3 scope ce fp) [] (wipe σ (own.map (·.2))) H' s' ∧ tn i s'.heap ∧ (∀ b ∈ fp, H' b = none) ∧ W i m H' := fun {s' σ8 H'} hw J nx => by
        obtain ⟨m', hm, w'⟩ := less H' nx
        have z : ∀ b ∈ fp, ∀ o, s7.heap.get? b = some o → s'.heap.get? b = some o ∧ H' b = none := fun b hb o e => by
          have z := J.pin (b, o) (List.mem_append_right _ (List.mem_append_right _ (mem_pinsAt (fp := fp) hb e)))
          exact ⟨z.1, z.2.1⟩
        have hl : (wipe σ (own.map (·.2))).length = σ8.length := by rw [← hw, wipe_length]
        refine ⟨m', hm, i + 1, H', (J.unpinned (pins := [])).weak hl (fun j v e => ?_), T.keep (i + 1) _ _ t7 fun b hb o e => (z b hb o e).1, fun b hb => ?_, w'⟩
        · rw [← hw] at e
          exact (wipe_some e).1
        · obtain ⟨o, e, _⟩ := T.obj (i + 1) s7.heap t7 b hb
          exact (z b hb o e).2
      refine thnF (pg.run _ s7 _ H7 x u _ I8 r7 (step x H7 y7)) fun _ s8 ⟨σ8, H8, I9, hw8, q8⟩ => ?_
      refine thnF (pt.run _ s8 σ8 H8 _ I9 q8) fun b s9 ⟨H9, I10, q9⟩ => ?_
      cases b with
      | false =>
        simp only [Bool.false_eq_true, if_false] at q9 ⊢
        exact fin hw8 I10 q9
      | true =>
        simp only [if_true] at q9 ⊢
        refine thnF (pk.run _ s9 σ8 H9 _ I10 q9) fun z s10 ⟨yk, H10, I11, r10, q10⟩ => ?_
        refine thnF (pe.run _ s10 σ8 H10 _ I11 q10) fun z2 s11 ⟨yv, H11, I12, r11, kvs, k, ek, hD11, hz11, nx⟩ => ?_
        subst ek
        exact d_dictSet (X := blkQ X (some p) s3 H3 scope ce fp) I12 hD11 hz11 r10 r11 fun s12 I13 => fin hw8 I13 nx
  exact codeAny_compStart_dict loop (T.self _ 0 _ _ _ t4 loop)
theorem pe_dcHot {p : Addr × Obj} {kx vx tg iter : Expr} {ifs : List Expr} {scope : Scope} {own : List (Str × Nat)} {pos : Pos} {wi : L2.TI} {g : L2.TG} {tt : L2.TT} {tk tv : L2.TE} (hot : Hot1 X.A p ∧ p ∈ X.pn) (hN : X.N.Nodup) (hl : PIH X tg iter wi) (ok : BlkOk X.N X.env.scope scope own)
    (hg : ∀ (s : Shared) (H : Hp) (C : Addr) (cl : List (Str × Addr)) (fp : List Addr), PG (blkQ X (some p) s H scope (compEnvC scope cl C X.env) fp) tg g) (ht : ∀ (s : Shared) (H : Hp) (C : Addr) (cl : List (Str × Addr)) (fp : List Addr), PTs (blkQ X (some p) s H scope (compEnvC scope cl C X.env) fp) ifs tt)
    (hk : ∀ (s : Shared) (H : Hp) (C : Addr) (cl : List (Str × Addr)) (fp : List Addr), PE (blkQ X (some p) s H scope (compEnvC scope cl C X.env) fp) kx tk)
    (he : ∀ (s : Shared) (H : Hp) (C : Addr) (cl : List (Str × Addr)) (fp : List Addr), PE (blkQ X (some p) s H scope (compEnvC scope cl C X.env) fp) vx tv) (hs : ∀ x, foldedSetIterable iter X.env x = pure x) : PE X (.DictComp kx vx [⟨tg, iter, ifs, 0⟩] scope pos) (tDc wi g tt tk tv (own.map (·.2))) := ⟨fun pins s σ H Q I h => by
  rw [arm_eval_DictComp]
  refine dc_hot hot hN hl ok hg ht hk he hs I h fun D C s' m H' I' q hn f => ⟨m, hn, fun h'' sb => ?_⟩
  obtain ⟨f0, f1, f2, f3, f4, f5⟩ := f
  exact ⟨.ref D, H', I'.turned (t' := s'.toks) (fun b o hb e => (sb.2 b hb).trans e) f0 f1 f3 f4 f5, rfl, q⟩⟩
end
end Y

/-! Yhs: a dict's keys are collected, whatever is handled. -/
namespace HotX
open PySem PySem.Spec PyProof.Rows L2 L2H PySem.W
/-- what is handled is known -/
def HandK (A : Around) (h : Heap) : Prop := A.handled = none ∨ ∃ x1, HotAt A x1 h
theorem HandK.keep {A : Around} {h h' : Heap} (x : HandK A h) (k : ∀ b o, h.get? b = some o → h'.get? b = some o) : HandK A h' := x.imp id fun ⟨x1, hh, o1, vs1, h1, r⟩ => ⟨x1, hh, o1, vs1, k _ _ h1, r⟩
theorem handK_of {X : Cx} {pins : List (Addr × Obj)} {σ : L2.St} {H : Hp} {s : Shared} (hc : X.calm = true ∨ HotC X) (I : Inv X pins σ H s) : HandK X.A s.heap := hc.imp (fun z => I.ok.hd z) fun z => z.at I
section
variable {prog : Program} {w : World} {Kt : Type} [DecidableEq Kt] {knd : KeyKind prog w Kt} {A : Around} {E : Value → Shared → Prop} {s : Shared} {x1 d : Addr} {o1 : Obj} {vs1 : Array Value} {kvs : List (Kt × Value)} {ep : Nat}
theorem walks_keysH (hh : A.handled = some (.ref x1)) (d1 : o1.data = .fields vs1) (c1 : vs1[2]? = some .none) (I : Addr) (hne : d ≠ I) (hx1 : x1 ≠ I) :
    Walks prog w A I [I, d, x1] [I] kvs.length (fun i v => ∃ k x, kvs[i]? = some (k, x) ∧ knd.is k v = true) (fun i h => h.IsKeyIter I d i kvs.length ep ∧ h.DictAt knd d kvs ep ∧ h.get? x1 = some o1) where
  sub := fun b hb => by simp at hb; simp [hb]
  frame := fun _ _ _ st hk => ⟨st.1.at fun o e => hk I (by simp) o e, st.2.1.at' fun o e => hk d (by simp) o e, hk x1 (by simp) _ st.2.2⟩
  item := fun i s Q E hi st hQ => by
    obtain ⟨⟨k, x⟩, hx⟩ : ∃ p, kvs[i]? = some p := ⟨kvs[i], by simp [hi]⟩
    refine wpAny_pyNext_dict_item st.1 st.2.1 hx fun key h' hkey hit' hs' => ?_
    exact hQ key h' s.toks ⟨k, x, hx, hkey⟩ ⟨hit', st.2.1.extBut hs'.extBut hne, hs'.extBut x1 _ hx1 st.2.2⟩ fun b o hb e => hs'.extBut b o (fun h => hb (by simp [h])) e
  done := fun s Q E st hQ => by
    obtain ⟨od, es, hod, hcd, hdd, hk, hp, hn⟩ := id st.2.1
    exact hot_key_end ⟨hh, o1, vs1, st.2.2, d1, c1⟩ hx1 st.1 hod hdd (by rw [← hp.length]; simp) (Nat.le_refl _) fun h' he' => hQ h' s.toks fun b o hb e => he' b o (fun h => hb (by simp [h])) e
  self := fun _ _ _ _ st hQ => wpAny_pyIter_keyiter st.1 hQ
theorem dict_walkK (lo : (d == sysModules) = false) (hk : HandK A s.heap) (hm : s.heap.DictAt knd d kvs ep) : ∃ (oI : Obj) (St : Nat → Heap → Prop) (fp : List Addr),
    (∀ (E : Value → Shared → Prop) (Q : Value → Shared → Prop), Q (.ref s.heap.objs.size) { s with heap := s.heap.push oI } → wpAny (model prog w) A (pyIter (.ref d)) Q E s) ∧
    Walks prog w A s.heap.objs.size fp [s.heap.objs.size] kvs.length (fun i v => ∃ k x, kvs[i]? = some (k, x) ∧ knd.is k v = true) St ∧ St 0 (s.heap.push oI) ∧ ∀ b ∈ fp, b = s.heap.objs.size ∨ b = d ∨ HotAt A b s.heap := by
  rcases hk with hh | ⟨x1, hh, o1, vs1, h1, d1, c1⟩
  · refine ⟨_, _, _, fun _ _ hq => wpAny_pyIter_dict lo hm hq, Walks.dictKeys hh _ d (Nat.ne_of_lt hm.lt_size) kvs ep, ⟨⟨_, Heap.get?_push_size _ rfl, rfl, rfl⟩, hm.push _⟩, fun b hb => ?_⟩
    rcases List.mem_cons.mp hb with e | hb
    · exact .inl e
    · exact .inr (.inl (List.mem_singleton.mp hb))
  · refine ⟨_, _, _, fun _ _ hq => wpAny_pyIter_dict lo hm hq, walks_keysH (kvs := kvs) (ep := ep) (knd := knd) hh d1 c1 _ (Nat.ne_of_lt hm.lt_size) (Nat.ne_of_lt (Heap.lt_size h1)), ⟨⟨_, Heap.get?_push_size _ rfl, rfl, rfl⟩, hm.push _, Heap.get?_push_of_some _ h1⟩, fun b hb => ?_⟩
    rcases List.mem_cons.mp hb with e | hb
    · exact .inl e
    · rcases List.mem_cons.mp hb with e | hb
      · exact .inr (.inl e)
      · rw [List.mem_singleton.mp hb]
        exact .inr (.inr ⟨hh, o1, vs1, h1, d1, c1⟩)
theorem extendK {R : Result → Shared → Prop} (lo : (d == sysModules) = false) (hh : HandK A s.heap) (hok : s.heap.DictAt knd d kvs ep) (S : Addr) (hSd : S ≠ d) (res : Value) (c₀ : Nat) (hS : s.heap.get? S = some { cls := .type "list", data := .seq #[] c₀ })
    (hR : ∀ h' tk acc' c', (∀ b o, b ≠ S → s.heap.get? b = some o → h'.get? b = some o) → h'.get? S = some { cls := .type "list", dict := none, data := .seq acc' c', slots := #[] } → ItemsOf (fun i v => ∃ k x, kvs[i]? = some (k, x) ∧ knd.is k v = true) acc' kvs.length → R (.ok (.ret res)) { s with heap := h', toks := tk }) (hn : kvs.length ≤ sizeLine) :
    wpAny (model prog w) A.in1 (Builtin.List.listExtendWith (.ref S) (.ref d) res)
      (fun fin s' => match fin with | .done f => R (.ok f) s' | .again c' => c'.quiet = true ∧ codeAny (model prog w) A c' R s') (fun e s' => R (.error e) s') s := by
  have K := kdl_dict (prog := prog) (w := w) (knd := knd) (kvs := kvs) (ep := ep) lo
  have hSI : S ≠ s.heap.objs.size := Nat.ne_of_lt (Heap.lt_size hS)
  obtain ⟨oI, St, fp, hit, W, st, hfp⟩ := dict_walkK (A := A.in1) (s := s) lo hh hok
  have hSf : S ∉ fp := fun hm => by
    rcases hfp S hm with e | e | ⟨_, o1, vs1, h1, d1, _⟩
    · exact hSI e
    · exact hSd e
    · rw [hS] at h1
      cases h1
      cases d1
  have key : ∀ (h : Heap) (c₁ tk : Nat), St 0 h → (∀ b o, b ≠ S → s.heap.get? b = some o → h.get? b = some o) →
      h.get? S = some { cls := .type "list", data := .seq #[] c₁ } → codeAny (model prog w) A (.builtin "list.extend.loop" ⟨[.ref S, .ref s.heap.objs.size, res], []⟩) R { s with heap := h, toks := tk } := by
    intro h c₁ tk hst hk hS₁
    refine codeAny_extend_loopS W.toS hn S hSf res kvs.length 0 _ #[] c₁ rfl (Nat.zero_le _) hst hS₁ (ItemsOf.nil _) fun s' acc' c' hm hS' hacc => ?_
    rw [Moved.eq_with hm]
    refine hR s'.heap s'.toks acc' c' (fun b o hb e => hm.heap b o (fun hmem => ?_) (hk b o hb e)) hS' hacc
    rcases List.mem_cons.mp hmem with e' | hmem
    · exact hb e'
    · exact absurd (Heap.lt_size e) (by rw [List.mem_singleton.mp hmem]; exact Nat.lt_irrefl _)
  unfold Builtin.List.listExtendWith
  refine wpAny_bind (wpAny_typeOf (T := "dict") (K.type s hok) ?_)
  have h1 : Builtin.List.listSameRef (.ref S) (.ref d) = false := by simp [Builtin.List.listSameRef, hSd]
  simp only [h1, K.notList, K.notTuple, Bool.or_false, Bool.false_eq_true, if_false]
  refine wpAny_bind (hit _ _ ?_)
  have hS₁ := Heap.get?_push_of_some oI hS
  refine wpAny_bind (wpAny_holding (K.hint _ _ _ _ (K.keep _ _ hok fun b _ o e => Heap.get?_push_of_some _ e) ?_))
  refine wpAny_ite_split (fun _ => ?_) (fun _ => wpAny_pure ⟨plainId_quiet PySem.F.plain_extend_loop _, key _ c₀ _ st (fun b o _ e => Heap.get?_push_of_some _ e) hS₁⟩)
  refine wpAny_bind (wpAny_rule ?_)
  refine wpAny_bind ?_
  show wpAny _ _ (updateSeq S (·.push .none) >>= fun _ => updateSeq S (·.pop)) _ _ _
  refine wpAny_bind (wpAny_updateSeq hS₁ rfl ?_)
  have hS₂ := Heap.get?_update_self (Obj.mapSeq (·.push Value.none)) hS₁ rfl
  refine wpAny_updateSeq (hz := by seq_fits) hS₂ rfl ?_
  have hS₃ := Heap.get?_update_self (Obj.mapSeq (·.pop)) hS₂ rfl
  refine wpAny_pure ⟨plainId_quiet PySem.F.plain_extend_loop _, key _ _ _ ?_ (fun b o hb e => ?_) hS₃⟩
  · refine W.frame 0 _ _ st fun b hb o e => ?_
    have hbS : b ≠ S := fun h => hSf (h ▸ hb)
    exact (Heap.get?_update_other _ _ (Ne.symm hbS)).trans ((Heap.get?_update_other _ _ (Ne.symm hbS)).trans e)
  · exact (Heap.get?_update_other _ _ (Ne.symm hb)).trans ((Heap.get?_update_other _ _ (Ne.symm hb)).trans (Heap.get?_push_of_some _ e))
theorem collectK {R : List Value → Shared → Prop} (lo : (d == sysModules) = false) (hh : HandK A s.heap) (hok : s.heap.DictAt knd d kvs ep) (hn : kvs.length ≤ sizeLine)
    (h : ∀ (h' : Heap) (tk : Nat) (acc : Array Value), (∀ b o, s.heap.get? b = some o → h'.get? b = some o) → ItemsOf (fun i v => ∃ k x, kvs[i]? = some (k, x) ∧ knd.is k v = true) acc kvs.length → R acc.toList { s with heap := h', toks := tk }) :
    wpAny (model prog w) A (collect (.ref d)) R E s := by
  have hlt := hok.lt_size
  unfold collect
  refine wpAny_bind (wpAny_runValue (codeAny_builtin entry_proto_collect' ?_))
  rw [Around.under_plainId PySem.F.plain_proto_collect _]
  show wpAny _ A.in1 (newList [] >>= fun l => again (.builtin "list.__iadd__" ⟨[l, .ref d], []⟩)) _ _ s
  refine wpAny_bind (wpAny_newObj_type ?_)
  refine wpAny_pure ⟨plainId_quiet PySem.F.plain_list_iadd _, codeAny_builtin entry_list_iadd' ?_⟩
  rw [Around.under_plainId PySem.F.plain_list_iadd _]
  have hS₁ : (s.heap.push { cls := .type "list", data := .seq ([] : List Value).toArray }).get? s.heap.objs.size = some { cls := .type "list", data := .seq #[] } := Heap.get?_push_size _ rfl
  show wpAny _ A.in1 (Builtin.List.listExtendWith (.ref s.heap.objs.size) (.ref d) (.ref s.heap.objs.size)) _ _ _
  have key := extendK (A := A) (knd := knd) (kvs := kvs) (ep := ep) (s := { s with heap := s.heap.push { cls := .type "list", data := .seq ([] : List Value).toArray } })
    (R := fun (q : Result) (s' : Shared) => ∃ (h' : Heap) (tk : Nat) (acc' : Array Value) (c' : Nat), q = .ok (.ret (.ref s.heap.objs.size)) ∧ s' = { s with heap := h', toks := tk } ∧
      (∀ b o, s.heap.get? b = some o → h'.get? b = some o) ∧ h'.get? s.heap.objs.size = some { cls := .type "list", dict := none, data := .seq acc' c', slots := #[] } ∧ ItemsOf (fun i v => ∃ k x, kvs[i]? = some (k, x) ∧ knd.is k v = true) acc' kvs.length)
    lo (hh.keep fun b o e => Heap.get?_push_of_some _ e) (hok.push _) s.heap.objs.size (Nat.ne_of_gt hlt) (.ref s.heap.objs.size) 0 hS₁
    (fun h' tk acc' c' hk hS' hacc => ⟨h', tk, acc', c', rfl, rfl, fun b o e => hk b o (Nat.ne_of_lt (Heap.lt_size e)) (Heap.get?_push_of_some _ e), hS', hacc⟩) hn
  refine wpAny_mono key (fun fin s' x => ?_) fun e s' x => ?_
  · cases fin with
    | done f =>
      obtain ⟨h', tk, acc', c', e, rfl, hk, hS', hacc⟩ := x
      cases e
      show wpAny _ A (load s.heap.objs.size >>= _) _ _ _
      refine wpAny_bind (wpAny_load hS' ?_)
      exact wpAny_pure (h h' tk acc' hk hacc)
    | again c₁ =>
      refine ⟨x.1, codeAny_mono x.2 fun q s₂ y => ?_⟩
      obtain ⟨h', tk, acc', c', rfl, rfl, hk, hS', hacc⟩ := y
      show wpAny _ A (load s.heap.objs.size >>= _) _ _ _
      refine wpAny_bind (wpAny_load hS' ?_)
      exact wpAny_pure (h h' tk acc' hk hacc)
  · obtain ⟨_, _, _, _, e', _⟩ := x
    cases e'
end
end HotX
namespace Y
theorem con_any {c : Ct} {X : L2.Cx} (hX : Con c X) : X.calm = true ∨ L2H.HotC X := by
  cases hX with
  | mk _ k' Wx fl hpp hrH hcf hh hp' ht hf hN hU hst =>
    cases hpp with
    | none => exact .inl (hcf rfl).1
    | some p => exact .inr ⟨p, (hh p rfl).1, (hh p rfl).2⟩
end Y

/-! Yhl: a list comprehension of two clauses while an exception is handled (the calm proof, turned). -/
namespace Y
open PySem PySem.Spec PyProof.Rows L2 L2H SX Z HotX
section
variable {X : Cx}
end
end Y

/-! Y0: values as trees, mutable objects as cells; judgements over trees. -/
namespace Y
open PySem PySem.Spec L2 SX Z

/-! ### trees -/
abbrev DK := Sum Int (List Nat)
def keyD : DK → Key
  | .inl i => .inl i
  | .inr s => .inr (S s)
/-- a key of another kind -/
inductive OKey where
  | txt (s : List Nat) | non | bl (b : Bool) | one (s : List Nat)
  deriving DecidableEq
inductive DT where
  | non | bl (b : Bool) | int (i : Int) | str (s : List Nat)
  | lst (xs : List DT) | seq (xs : List DT) | tup (xs : List DT) | dct (kvs : List (DK × DT)) | obj (C : Addr) (fs : List (Str × DT))
  | ref (p : Addr) | ty (n : String) | exc (C : Addr) (fs : List (Str × DT))
  | hot (a : Addr) (d : Option Addr) (fs : List (Str × DT))
  /-- a dict with keys of other kinds, never changed -/
  | dco (kvs : List (OKey × Int))
def okT : OKey → DT
  | .txt s => .str s
  | .non => .non
  | .bl b => .bl b
  | .one s => .tup [.str s]
def dk : DK → DT
  | .inl i => .int i
  | .inr s => .str s
/-- the codes of a written text -/
def sOf (x : Str) : List Nat := x.cps.toList
theorem S_sOf (x : Str) : S (sOf x) = x := S_tl x
/-- the object at a is ob -/
def odE (a : Addr) (ob : Obj) : HO := .ext fun h => h.get? a = some ob
structure OdOb (a : Addr) (ob : Obj) (rows : List (V × V)) : Prop where
  len : rows.length ≤ sizeLine
  sm : (a == sysModules) = false
  ex : ob.ExactDict
  es : ∃ es ep, ob.data = .dict es ep ∧ Paired (fun (r : V × V) (e : DictEntry) => RelV r.1 e.key ∧ RelV r.2 e.val) rows es.toList
section
variable (F : PySem.W.Frag) (H : Hp)
def OKv (v : V) : OKey → Prop
  | .txt s => v = .str (S s)
  | .non => v = .non
  | .bl b => v = .bl b
  | .one s => ∃ b, v = .ref b ∧ SqT F H b [.str (S s)]
abbrev OKr (r : V × V) (p : OKey × Int) : Prop := OKv F H r.1 p.1 ∧ r.2 = .int p.2
mutual
inductive Rep : V → DT → Prop
  | non : Rep .non .non
  | bl (b : Bool) : Rep (.bl b) (.bl b)
  | int (i : Int) : Rep (.int i) (.int i)
  | str (s : List Nat) : Rep (.str (S s)) (.str s)
  | lst {a : Addr} {vs : List V} {ds : List DT} : H a = some (.lst vs) → RepA vs ds → Rep (.ref a) (.lst ds)
  | seq {a : Addr} {vs : List V} {ds : List DT} : SqL F H a vs → RepA vs ds → Rep (.ref a) (.seq ds)
  | tup {a : Addr} {vs : List V} {ds : List DT} : SqT F H a vs → RepA vs ds → Rep (.ref a) (.tup ds)
  | dct {a : Addr} {ob : Obj} {kvs : List (Key × V)} {ds : List (DK × DT)} : H a = some (.frz ob (.dK kvs)) → RepK kvs ds → Rep (.ref a) (.dct ds)
  | obj {a C dx : Addr} {fs : List (Str × V)} {ds : List (Str × DT)} : H a = some (.ins C dx fs) → H dx = some (.own a) → RepF fs ds → Rep (.ref a) (.obj C ds)
  | ref (a : Addr) : Rep (.ref a) (.ref a)
  | ty (n : String) : Rep (.ty n) (.ty n)
  | exc0 {a C : Addr} : H a = some (ExO (.ref C) a) → Rep (.ref a) (.exc C [])
  | exc1 {a C dx : Addr} {fs : List (Str × V)} {ds : List (Str × DT)} : H a = some (exo a C (some dx)) → H dx = some (exd dx fs) → RepF fs ds → Rep (.ref a) (.exc C ds)
  | hot0 (a : Addr) : Rep (.ref a) (.hot a none [])
  | hot1 {a dx : Addr} {fs : List (Str × V)} {ds : List (Str × DT)} : H dx = some (.xd fs) → RepF fs ds → Rep (.ref a) (.hot a (some dx) ds)
  | dco {a : Addr} {ob : Obj} {rows : List (V × V)} {kvs : List (OKey × Int)} : H a = some (odE a ob) → OdOb a ob rows → Paired (OKr F H) rows kvs → Rep (.ref a) (.dco kvs)
inductive RepA : List V → List DT → Prop
  | nil : RepA [] []
  | cons {v : V} {vs : List V} {d : DT} {ds : List DT} : Rep v d → RepA vs ds → RepA (v :: vs) (d :: ds)
inductive RepK : List (Key × V) → List (DK × DT) → Prop
  | nil : RepK [] []
  | cons {k : DK} {v : V} {vs : List (Key × V)} {d : DT} {ds : List (DK × DT)} : Rep v d → RepK vs ds → RepK ((keyD k, v) :: vs) ((k, d) :: ds)
inductive RepF : List (Str × V) → List (Str × DT) → Prop
  | nil : RepF [] []
  | cons {k : Str} {v : V} {vs : List (Str × V)} {d : DT} {ds : List (Str × DT)} : Rep v d → RepF vs ds → RepF ((k, v) :: vs) ((k, d) :: ds)
end
end
section
variable {F : PySem.W.Frag} {H H' K : Hp}
theorem OKv.same (s : Same H H') {v : V} {k : OKey} (h : OKv F H v k) : OKv F H' v k := by
  cases k with
  | one x => obtain ⟨b, e, q⟩ := h; exact ⟨b, e, same_sqt s q⟩
  | txt x => exact h
  | non => exact h
  | bl b => exact h
theorem OKr.same (s : Same H H') {rows : List (V × V)} {kvs : List (OKey × Int)} (h : Paired (OKr F H) rows kvs) : Paired (OKr F H') rows kvs := Paired.mapP h fun _ _ z => ⟨z.1.same s, z.2⟩
mutual
theorem Rep.same (s : Same H H') : ∀ {v : V} {d : DT}, Rep F H v d → Rep F H' v d
  | _, _, .non => .non
  | _, _, .bl b => .bl b
  | _, _, .int i => .int i
  | _, _, .str z => .str z
  | _, _, .lst h r => .lst (s _ _ h) (RepA.same s r)
  | _, _, .seq h r => .seq (same_sql s h) (RepA.same s r)
  | _, _, .tup h r => .tup (same_sqt s h) (RepA.same s r)
  | _, _, .dct h r => .dct (s _ _ h) (RepK.same s r)
  | _, _, .obj h h2 r => .obj (s _ _ h) (s _ _ h2) (RepF.same s r)
  | _, _, .ref a => .ref a
  | _, _, .ty n => .ty n
  | _, _, .exc0 h => .exc0 (s _ _ h)
  | _, _, .exc1 h h2 r => .exc1 (s _ _ h) (s _ _ h2) (RepF.same s r)
  | _, _, .hot0 a => .hot0 a
  | _, _, .hot1 h r => .hot1 (s _ _ h) (RepF.same s r)
  | _, _, .dco h o r => .dco (s _ _ h) o (OKr.same s r)
theorem RepA.same (s : Same H H') : ∀ {v : List V} {d : List DT}, RepA F H v d → RepA F H' v d
  | _, _, .nil => .nil
  | _, _, .cons h r => .cons (Rep.same s h) (RepA.same s r)
theorem RepK.same (s : Same H H') : ∀ {v : List (Key × V)} {d : List (DK × DT)}, RepK F H v d → RepK F H' v d
  | _, _, .nil => .nil
  | _, _, .cons h r => .cons (Rep.same s h) (RepK.same s r)
theorem RepF.same (s : Same H H') : ∀ {v : List (Str × V)} {d : List (Str × DT)}, RepF F H v d → RepF F H' v d
  | _, _, .nil => .nil
  | _, _, .cons h r => .cons (Rep.same s h) (RepF.same s r)
end
theorem RepA.length : ∀ {v : List V} {d : List DT}, RepA F H v d → v.length = d.length
  | _, _, .nil => rfl
  | _, _, .cons _ r => congrArg (· + 1) (RepA.length r)
theorem RepK.length : ∀ {v : List (Key × V)} {d : List (DK × DT)}, RepK F H v d → v.length = d.length
  | _, _, .nil => rfl
  | _, _, .cons _ r => congrArg (· + 1) (RepK.length r)
theorem RepA.get : ∀ {v : List V} {d : List DT} {i : Nat} {x : DT}, RepA F H v d → d[i]? = some x → ∃ u, v[i]? = some u ∧ Rep F H u x
  | _, _, _, _, .nil, e => by simp at e
  | _, _, 0, _, .cons r _, e => by simp at e; subst e; exact ⟨_, rfl, r⟩
  | _, _, i + 1, x, .cons _ t, e => by
    obtain ⟨u, h1, h2⟩ := RepA.get (i := i) (x := x) t (by simpa using e)
    exact ⟨u, by simpa using h1, h2⟩
theorem RepA.get' : ∀ {v : List V} {d : List DT} {i : Nat} {u : V}, RepA F H v d → v[i]? = some u → ∃ x, d[i]? = some x ∧ Rep F H u x
  | _, _, _, _, .nil, e => by simp at e
  | _, _, 0, _, .cons r _, e => by simp at e; subst e; exact ⟨_, rfl, r⟩
  | _, _, i + 1, x, .cons _ t, e => by
    obtain ⟨u, h1, h2⟩ := RepA.get' (i := i) (u := x) t (by simpa using e)
    exact ⟨u, by simpa using h1, h2⟩
theorem RepA.set {x : DT} {u : V} (r : Rep F H u x) : ∀ {v : List V} {d : List DT} (i : Nat), RepA F H v d → RepA F H (v.set i u) (d.set i x)
  | _, _, _, .nil => .nil
  | _, _, 0, .cons _ t => .cons r t
  | _, _, i + 1, .cons q t => .cons q (RepA.set r i t)
theorem RepA.append : ∀ {v : List V} {d : List DT} {v2 : List V} {d2 : List DT}, RepA F H v d → RepA F H v2 d2 → RepA F H (v ++ v2) (d ++ d2)
  | _, _, _, _, .nil, s => s
  | _, _, _, _, .cons r t, s => .cons r (RepA.append t s)
theorem RepA.take : ∀ {v : List V} {d : List DT} (n : Nat), RepA F H v d → RepA F H (v.take n) (d.take n)
  | _, _, 0, _ => .nil
  | _, _, _ + 1, .nil => .nil
  | _, _, n + 1, .cons r t => .cons r (RepA.take n t)
theorem RepA.drop : ∀ {v : List V} {d : List DT} (n : Nat), RepA F H v d → RepA F H (v.drop n) (d.drop n)
  | _, _, 0, r => r
  | _, _, _ + 1, .nil => .nil
  | _, _, n + 1, .cons _ t => RepA.drop n t
theorem RepA.rep : ∀ {v : List V} {d : List DT} (n : Nat), RepA F H v d → RepA F H (List.replicate n v).flatten (List.replicate n d).flatten
  | _, _, 0, _ => .nil
  | v, d, n + 1, r => by
    rw [List.replicate_succ, List.replicate_succ, List.flatten_cons, List.flatten_cons]
    exact r.append (RepA.rep n r)
theorem RepF.lookup : ∀ {v : List (Str × V)} {d : List (Str × DT)} {x : Str} {y : DT}, RepF F H v d → d.lookup x = some y → ∃ u, v.lookup x = some u ∧ Rep F H u y
  | _, _, _, _, .nil, e => by simp at e
  | _, _, x, y, .cons (k := k) r t, e => by
    rw [List.lookup_cons] at e ⊢
    cases h : x == k with
    | true => rw [h] at e; cases e; exact ⟨_, rfl, r⟩
    | false => rw [h] at e; exact RepF.lookup t e
/-- the keys -/
theorem keyD_inj {a b : DK} (h : keyD a = keyD b) : a = b := by
  cases a with
  | inl i => cases b with
    | inl j => cases h; rfl
    | inr t => cases h
  | inr s => cases b with
    | inl j => cases h
    | inr t => rw [S_inj (Sum.inr.inj h)]
theorem rep_dk (k : DK) : Rep F H (kV (keyD k)) (dk k) := by
  cases k with
  | inl i => exact .int i
  | inr s => exact .str s
theorem Rep.key {v : V} {k : DK} (h : Rep F H v (dk k)) : v = kV (keyD k) := by
  cases k with
  | inl i => cases h; rfl
  | inr s => cases h; rfl
end

/-! ### cells -/
inductive Cell where
  | lst (ds : List DT) | dct (kvs : List (DK × DT)) | obj (C : Addr) (fs : List (Str × DT))
  /-- any other object, at q, by what is true of it (and stays true while more is known) -/
  | any (q : Addr) (Φ : Hp → HO → Prop)
def Cell.tree : Cell → DT
  | .lst ds => .lst ds
  | .dct ds => .dct ds
  | .obj C fs => .obj C fs
  | .any q _ => .ref q
abbrev Sg := Addr → Option Cell
def su (σ : Sg) (p : Addr) (c : Cell) : Sg := fun q => if q = p then some c else σ q
def sd (σ : Sg) (p : Addr) : Sg := fun q => if q = p then none else σ q
@[simp] theorem su_same {σ : Sg} {p : Addr} {c : Cell} : su σ p c p = some c := if_pos rfl
theorem su_ne {σ : Sg} {p q : Addr} {c : Cell} (h : q ≠ p) : su σ p c q = σ q := if_neg h
@[simp] theorem sd_same {σ : Sg} {p : Addr} : sd σ p p = none := if_pos rfl
theorem sd_ne {σ : Sg} {p q : Addr} (h : q ≠ p) : sd σ p q = σ q := if_neg h
@[simp] theorem su_su {σ : Sg} {p : Addr} {c c' : Cell} : su (su σ p c) p c' = su σ p c' := by
  funext q
  unfold su
  split <;> rfl
theorem sd_su {σ : Sg} {p : Addr} {c : Cell} (h : σ p = none) : sd (su σ p c) p = σ := by
  funext q
  unfold sd su
  split
  · next e => rw [e, h]
  · rfl
theorem su_comm {σ : Sg} {p q : Addr} {c c' : Cell} (h : p ≠ q) : su (su σ p c) q c' = su (su σ q c') p c := by
  funext a
  unfold su
  by_cases e : a = p
  · by_cases e2 : a = q
    · exact absurd (e.symm.trans e2) h
    · simp [e, h]
  · simp [e]
theorem su_self {σ : Sg} {p : Addr} {c : Cell} (h : σ p = some c) : su σ p c = σ := by
  funext a
  unfold su
  split
  · next e => rw [e, h]
  · rfl
section
variable (F : PySem.W.Frag)
def CRep (H K : Hp) (p : Addr) : Cell → Prop
  | .lst ds => ∃ vs, K p = some (.lst vs) ∧ RepA F H vs ds
  | .dct ds => ∃ vs, K p = some (.dK vs) ∧ RepK F H vs ds
  | .obj C ds => ∃ dx vs, K p = some (.ins C dx vs) ∧ K dx = some (.own p) ∧ RepF F H vs ds
  | .any q Φ => q = p ∧ ∃ o, K p = some o ∧ (∀ a, o ≠ .own a) ∧ ∀ H', Same H H' → Φ H' o
structure Wd (H : Hp) (σ : Sg) (K : Hp) : Prop where
  le : Same H K
  off : ∀ p c, σ p = some c → H p = none
  on : ∀ p c, σ p = some c → CRep F H K p c
end
/-- the way from one state to a later one: what is known for good stays, what is no cell stays, new cells are new objects -/
structure Gw (H : Hp) (σ : Sg) (K H' : Hp) (σ' : Sg) (K' : Hp) : Prop where
  b : Same H H'
  k : ∀ a o, σ a = none → K a = some o → K' a = some o
  n : ∀ a, σ a = none → σ' a ≠ none → K a = none
  f : ∀ a, H a = none → H' a ≠ none → σ a = none → K a = none ∨ ∃ p, K a = some (.own p)
theorem Gw.refl {H K : Hp} {σ : Sg} : Gw H σ K H σ K := ⟨Same.refl H, fun _ _ _ e => e, fun a h n => absurd h n, fun a h n => absurd h n⟩
theorem Gw.trans {H H1 H2 K K1 K2 : Hp} {σ σ1 σ2 : Sg} (g : Gw H σ K H1 σ1 K1) (g2 : Gw H1 σ1 K1 H2 σ2 K2) : Gw H σ K H2 σ2 K2 where
  b := g.b.trans g2.b
  k := fun a o h e => by
    refine g2.k a o ?_ (g.k a o h e)
    cases q : σ1 a with
    | none => rfl
    | some c =>
      have := g.n a h (by rw [q]; exact Option.some_ne_none _)
      rw [this] at e
      cases e
  n := fun a h z => by
    cases q : σ1 a with
    | none =>
      have k1 := g2.n a q z
      cases e : K a with
      | none => rfl
      | some o =>
        rw [g.k a o h e] at k1
        cases k1
    | some c => exact g.n a h (by rw [q]; exact Option.some_ne_none _)
  f := fun a h z e => by
    by_cases q : H1 a = none
    · cases q1 : σ1 a with
      | some c => exact .inl (g.n a e (by rw [q1]; exact Option.some_ne_none _))
      | none =>
        cases q2 : K a with
        | none => exact .inl rfl
        | some o =>
          have k1 := g.k a o e q2
          rcases g2.f a q z q1 with r | ⟨p, r⟩
          · rw [k1] at r; cases r
          · rw [k1] at r; cases r; exact .inr ⟨p, rfl⟩
    · exact g.f a h q e
theorem Gw.drop {H H1 K K1 : Hp} {σ σ1 : Sg} {p : Addr} (g : Gw H σ K H1 σ1 K1) : Gw H σ K H1 (sd σ1 p) K1 := ⟨g.b, g.k, fun a h z => g.n a h fun e => z (by
  by_cases q : a = p
  · rw [q, sd_same]
  · rw [sd_ne q, e]), g.f⟩
theorem Gw.newC {H K : Hp} {σ : Sg} {p : Addr} {c : Cell} {o : HO} (h : K p = none) : Gw H σ K H (su σ p c) (upd K p o) := ⟨Same.refl H, fun a u _ e => by rw [upd_ne (ne_of_none e h)]; exact e, fun a e z => by
  by_cases q : a = p
  · rw [q]; exact h
  · rw [su_ne q] at z; exact absurd e z, fun a h z => absurd h z⟩
theorem Gw.write {H K : Hp} {σ : Sg} {p : Addr} {c c' : Cell} {o : HO} (h : σ p = some c) : Gw H σ K H (su σ p c') (upd K p o) := ⟨Same.refl H, fun a u e e2 => by rw [upd_ne (fun q => by rw [q, h] at e; cases e)]; exact e2, fun a e z => by
  rw [su_ne (fun q => by rw [q, h] at e; cases e)] at z
  exact absurd e z, fun a h z => absurd h z⟩
theorem Gw.push {H K : Hp} {σ : Sg} {p : Addr} {o : HO} (h : K p = none) : Gw H σ K H σ (upd K p o) := ⟨Same.refl H, fun a u _ e => by rw [upd_ne (ne_of_none e h)]; exact e, fun a e z => absurd e z, fun a h z => absurd h z⟩
section
variable {F : PySem.W.Frag} {H H' K K' : Hp} {σ : Sg} {p : Addr} {c : Cell}
theorem CRep.here (h : CRep F H K p c) : ∃ o, K p = some o := by
  cases c with
  | lst ds => obtain ⟨vs, e, _⟩ := h; exact ⟨_, e⟩
  | dct ds => obtain ⟨vs, e, _⟩ := h; exact ⟨_, e⟩
  | obj C ds => obtain ⟨dx, vs, e, _⟩ := h; exact ⟨_, e⟩
  | any q0 Φ => obtain ⟨_, o, e, _⟩ := h; exact ⟨_, e⟩
theorem CRep.mut (h : CRep F H K p c) : ∀ a, K p ≠ some (.own a) := fun a q => by
  cases c with
  | lst ds => obtain ⟨vs, e, _⟩ := h; rw [e] at q; cases q
  | dct ds => obtain ⟨vs, e, _⟩ := h; rw [e] at q; cases q
  | obj C ds => obtain ⟨dx, vs, e, _⟩ := h; rw [e] at q; cases q
  | any q0 Φ => obtain ⟨_, o, e, n, _⟩ := h; rw [e] at q; cases q; exact n _ rfl
/-- what a cell's description leans on: its own object, its own dict -/
theorem CRep.stay (h : CRep F H K p c) (s : Same H H') (k : ∀ a o, (a = p ∨ o = .own p) → K a = some o → K' a = some o) : CRep F H' K' p c := by
  cases c with
  | lst ds => obtain ⟨vs, e, r⟩ := h; exact ⟨vs, k _ _ (.inl rfl) e, r.same s⟩
  | dct ds => obtain ⟨vs, e, r⟩ := h; exact ⟨vs, k _ _ (.inl rfl) e, r.same s⟩
  | obj C ds => obtain ⟨dx, vs, e, e2, r⟩ := h; exact ⟨dx, vs, k _ _ (.inl rfl) e, k _ _ (.inr rfl) e2, r.same s⟩
  | any q0 Φ => obtain ⟨e0, o, e, n, r⟩ := h; exact ⟨e0, o, k _ _ (.inl rfl) e, n, fun H2 s2 => r H2 (s.trans s2)⟩
theorem Wd.free (w : Wd F H σ K) {a : Addr} (h : K a = .none) : σ a = .none := by
  cases e : σ a with
  | none => rfl
  | some c =>
    obtain ⟨o, q⟩ := (w.on a c e).here
    rw [h] at q
    cases q
theorem none_of {H K : Hp} (s : Same H K) {p : Addr} (h : K p = .none) : H p = .none := by
  cases e : H p with
  | none => rfl
  | some o => rw [s _ _ e] at h; cases h
/-- a new object, known for good -/
theorem Wd.new (w : Wd F H σ K) {o : HO} (h : K p = .none) : Gw H σ K (upd H p o) σ (upd K p o) ∧ Wd F (upd H p o) σ (upd K p o) := by
  have hp : H p = .none := none_of w.le h
  refine ⟨⟨same_upd hp, (Gw.push (H := H) h).k, (Gw.push (H := H) (o := o) h).n, fun a e z _ => .inl (by
    by_cases q : a = p
    · rw [q]; exact h
    · rw [upd_ne q] at z; exact absurd e z)⟩, fun a u e => ?_, fun q c e => ?_, fun q c e => ?_⟩
  · by_cases z : a = p
    · subst z
      rw [upd_same] at e
      cases e
      exact upd_same
    · rw [upd_ne z] at e
      rw [upd_ne z]
      exact w.le a u e
  · have ne : q ≠ p := fun z => by
      obtain ⟨u, e2⟩ := (w.on q c e).here
      rw [z, h] at e2
      cases e2
    rw [upd_ne ne]
    exact w.off q c e
  · exact (w.on q c e).stay (same_upd hp) fun a u _ e2 => by rw [upd_ne (ne_of_none e2 h)]; exact e2
/-- a new object that stays untold -/
theorem Wd.push (w : Wd F H σ K) {o : HO} (h : K p = .none) : Wd F H σ (upd K p o) := by
  have hp : H p = .none := none_of w.le h
  refine ⟨fun a u e => ?_, w.off, fun q c e => (w.on q c e).stay (Same.refl H) fun a u _ e2 => by rw [upd_ne (ne_of_none e2 h)]; exact e2⟩
  rw [upd_ne (ne_of_none e hp)]
  exact w.le a u e
/-- an object that stands is a cell from now on -/
theorem Wd.add (w : Wd F H σ K) (hp : H p = .none) (r : CRep F H K p c) : Wd F H (su σ p c) K := by
  refine ⟨w.le, fun q u e => ?_, fun q u e => ?_⟩
  · by_cases z : q = p
    · rw [z]; exact hp
    · rw [su_ne z] at e
      exact w.off q u e
  · by_cases z : q = p
    · subst z
      rw [su_same] at e
      cases e
      exact r
    · rw [su_ne z] at e
      exact w.on q u e
theorem Wd.drop (w : Wd F H σ K) : Wd F H (sd σ p) K := by
  have f : ∀ {q u}, sd σ p q = some u → σ q = some u := fun {q u} e => by
    by_cases z : q = p
    · rw [z, sd_same] at e; cases e
    · rwa [sd_ne z] at e
  exact ⟨w.le, fun q u e => w.off q u (f e), fun q u e => w.on q u (f e)⟩
/-- a cell's object is written -/
theorem Wd.write (w : Wd F H σ K) {o : HO} {c' : Cell} (hc : σ p = some c) (r : CRep F H (upd K p o) p c') : Wd F H (su σ p c') (upd K p o) := by
  have mu := (w.on p c hc).mut
  refine ⟨fun a u e => ?_, fun q u e => ?_, fun q u e => ?_⟩
  · have z : a ≠ p := fun z => by rw [z, w.off p c hc] at e; cases e
    rw [upd_ne z]
    exact w.le a u e
  · by_cases z : q = p
    · rw [z]; exact w.off p c hc
    · rw [su_ne z] at e
      exact w.off q u e
  · by_cases z : q = p
    · subst z
      rw [su_same] at e
      cases e
      exact r
    · rw [su_ne z] at e
      refine (w.on q u e).stay (Same.refl H) fun a u2 h e2 => ?_
      have ne : a ≠ p := fun z2 => by
        rcases h with h | h
        · exact z (h.symm.trans z2)
        · subst h
          rw [z2] at e2
          exact mu _ e2
      rw [upd_ne ne]
      exact e2
/-- a cell is known for good from now on (a dict is locked) -/
theorem Wd.freeze {X : Cx} {pins : List (Addr × Obj)} {st : L2.St} {s : Shared} (w : Wd F H σ K) (hc : σ p = some c) (I : Inv X pins st K s) : ∃ H' K', Inv X pins st K' s ∧ Gw H σ K H' (sd σ p) K' ∧ Wd F H' (sd σ p) K' ∧ Rep F H' (.ref p) c.tree := by
  have gn : ∀ a, σ a = none → sd σ p a ≠ none → K a = none := fun a h z => absurd ((Gw.refl (H := H) (σ := σ) (K := K)).drop (p := p) |>.n a h z) (fun e => z (by
    by_cases q : a = p
    · rw [q, sd_same]
    · rw [sd_ne q, h]))
  have gf : ∀ {o : HO} (a : Addr), H a = none → (upd H p o) a ≠ none → σ a = none → K a = none ∨ ∃ p, K a = some (.own p) := fun {o} a e z h => by
    by_cases q : a = p
    · rw [q, hc] at h; cases h
    · rw [upd_ne q] at z; exact absurd e z
  have hp := w.off p c hc
  have r := w.on p c hc
  have off : ∀ {o : HO}, ∀ q u, sd σ p q = some u → (upd H p o) q = none := fun {o} q u q2 => by
    have ne : q ≠ p := fun z => by rw [z, sd_same] at q2; cases q2
    rw [upd_ne ne]
    exact w.drop.off q u q2
  have base : ∀ {o : HO}, K p = some o → Same H (upd H p o) ∧ Wd F (upd H p o) (sd σ p) K := fun {o} e => by
    refine ⟨same_upd hp, fun a u q => ?_, off, fun q u q2 => (w.drop.on q u q2).stay (same_upd hp) fun _ _ _ e => e⟩
    by_cases z : a = p
    · subst z
      rw [upd_same] at q
      cases q
      exact e
    · rw [upd_ne z] at q
      exact w.le a u q
  cases c with
  | any q0 Φ =>
    obtain ⟨rfl, _⟩ := r
    exact ⟨H, K, I, ⟨Same.refl H, fun _ _ _ e => e, gn, fun a e z => absurd e z⟩, w.drop, .ref _⟩
  | lst ds =>
    obtain ⟨vs, e, ra⟩ := r
    obtain ⟨s, w'⟩ := base e
    exact ⟨_, K, I, ⟨s, fun _ _ _ e => e, gn, gf⟩, w', .lst upd_same (ra.same s)⟩
  | dct ds =>
    obtain ⟨vs, e, ra⟩ := r
    obtain ⟨od, I'⟩ := I.lock e trivial
    have sd' : Same H (upd H p (.frz od (.dK vs))) := same_upd hp
    refine ⟨upd H p (.frz od (.dK vs)), _, I', ⟨sd', fun a o h2 e2 => by rw [upd_ne (fun q => by rw [q, hc] at h2; cases h2)]; exact e2, gn, gf⟩, ⟨fun a u q => ?_, off, fun q u q2 => ?_⟩, .dct upd_same (ra.same sd')⟩
    · by_cases z : a = p
      · subst z
        rw [upd_same] at q ⊢
        exact q
      · rw [upd_ne z] at q ⊢
        exact w.le a u q
    · refine (w.drop.on q u q2).stay sd' fun a o h e2 => ?_
      have ne : a ≠ p := fun z2 => by
        rcases h with h | h
        · rw [← h, z2, sd_same] at q2; cases q2
        · rw [z2, e] at e2; subst h; cases e2
      rw [upd_ne ne]
      exact e2
  | obj C ds =>
    obtain ⟨dx, vs, e, e2, ra⟩ := r
    obtain ⟨s, w'⟩ := base e
    have ne : dx ≠ p := fun z => by rw [z, e] at e2; cases e2
    have s2 : Same (upd H p (.ins C dx vs)) (upd (upd H p (.ins C dx vs)) dx (.own p)) := fun a u q => by
      by_cases z : a = dx
      · subst z
        have k := w'.le a u q
        rw [e2] at k
        cases k
        exact upd_same
      · rw [upd_ne z]; exact q
    refine ⟨_, K, I, ⟨s.trans s2, fun _ _ _ e => e, gn, fun a e z h => by
      by_cases q : a = dx
      · rw [q]; exact .inr ⟨p, e2⟩
      · rw [upd_ne q] at z; exact gf a e z h⟩, ⟨fun a u q => ?_, fun q u q2 => ?_, fun q u q2 => (w'.on q u q2).stay s2 fun _ _ _ e => e⟩, .obj (C := C) (dx := dx) (by rw [upd_ne (fun z => ne z.symm)]; exact upd_same) upd_same (ra.same (s.trans s2))⟩
    · by_cases z : a = dx
      · subst z
        rw [upd_same] at q
        cases q
        exact e2
      · rw [upd_ne z] at q
        exact w'.le a u q
    · have z : q ≠ dx := fun z => by
        have := (w'.on q u q2).mut p
        rw [z] at this
        exact this e2
      rw [upd_ne z]
      exact w'.off q u q2
end

/-! ### slots -/
abbrev EnvT := List (Option DT)
structure REnv (F : PySem.W.Frag) (H : Hp) (ρ : EnvT) (st : L2.St) : Prop where
  len : ρ.length = st.length
  get : ∀ (i : Nat) (d : DT), ρ[i]? = some (some d) → ∃ v, st[i]? = some (some v) ∧ Rep F H v d
section
variable {F : PySem.W.Frag} {H H' K K' : Hp} {ρ : EnvT} {st : L2.St}
theorem REnv.same (r : REnv F H ρ st) (s : Same H H') : REnv F H' ρ st := ⟨r.len, fun i d e => by
  obtain ⟨v, e1, e2⟩ := r.get i d e
  exact ⟨v, e1, e2.same s⟩⟩
theorem REnv.set (r : REnv F H ρ st) {v : V} {d : DT} (h : Rep F H v d) (i : Nat) : REnv F H (ρ.set i (some d)) (st.set i (some v)) := by
  refine ⟨by rw [List.length_set, List.length_set, r.len], fun j e q => ?_⟩
  rw [List.getElem?_set] at q ⊢
  by_cases z : i = j
  · rw [if_pos z] at q ⊢
    rw [← r.len]
    split at q
    · next l => rw [if_pos l]; cases q; exact ⟨v, rfl, h⟩
    · cases q
  · rw [if_neg z] at q ⊢
    exact r.get j e q
theorem REnv.unset (r : REnv F H ρ st) (i : Nat) : REnv F H (ρ.set i none) (st.set i none) := by
  refine ⟨by rw [List.length_set, List.length_set, r.len], fun j e q => ?_⟩
  rw [List.getElem?_set] at q ⊢
  by_cases z : i = j
  · rw [if_pos z] at q
    split at q <;> cases q
  · rw [if_neg z] at q ⊢
    exact r.get j e q
def wipeT (ρ : EnvT) : List Nat → EnvT
  | [] => ρ
  | v :: vs => (wipeT ρ vs).set v none
theorem REnv.wipe (r : REnv F H ρ st) : ∀ vs : List Nat, REnv F H (wipeT ρ vs) (L2.wipe st vs)
  | [] => r
  | v :: vs => (REnv.wipe r vs).unset v
theorem renv_start {vs : List V} {ds : List DT} (r : RepA F H vs ds) (n : Nat) : REnv F H (ds.map some ++ List.replicate n none) (vs.map some ++ List.replicate n none) := by
  constructor
  · simp [r.length]
  · intro i d e
    by_cases h : i < ds.length
    · rw [List.getElem?_append_left (by simpa using h), List.getElem?_map] at e
      rw [List.getElem?_append_left (by simpa [r.length] using h), List.getElem?_map]
      obtain ⟨x, e1, e2⟩ := Option.map_eq_some_iff.mp e
      cases e2
      obtain ⟨u, h1, h2⟩ := r.get e1
      exact ⟨u, by rw [h1]; exact rfl, h2⟩
    · rw [List.getElem?_append_right (by simpa using h)] at e
      rw [List.getElem?_replicate] at e
      split at e <;> cases e
end
end Y

/-! Y1: judgements over trees: expressions. -/
namespace Y
open PySem PySem.Spec L2 SX Z

/-- what may leave: a class, an own dict -/
abbrev TX := Value → Option (List (Str × DT)) → Sg → Prop
abbrev TX0 : TX := fun _ _ _ => False
inductive XRep (F : PySem.W.Frag) (H : Hp) : Option Addr → Option (List (Str × DT)) → Prop
  | nil : XRep F H none none
  | dict {d : Addr} {vs : List (Str × V)} {fs : List (Str × DT)} : H d = some (.xd vs) → RepF F H vs fs → XRep F H (some d) (some fs)
/-- errors leave as told -/
def XC (c : Ct) (H : Hp) (σ : Sg) (K : Hp) (st : L2.St) (E : TX) : Prop := ∀ cls dA x σ' H' K', Gw H σ K H' σ' K' → Wd c.K H' σ' K' → XRep c.K H' dA x → E cls x σ' → c.Wx cls dA st K'
theorem XC.next {c : Ct} {H H' K K' : Hp} {σ σ' : Sg} {st : L2.St} {E : TX} (f : XC c H σ K st E) (s : Gw H σ K H' σ' K') : XC c H' σ' K' st E := fun cls dA x σ' H2 K2 s2 => f cls dA x σ' H2 K2 (s.trans s2)
/-- what follows, over trees, serves what follows, over the heap -/
def Fo {α β : Type} (c : Ct) (R : Hp → α → β → Prop) (H : Hp) (σ : Sg) (K : Hp) (Q : β → Sg → Prop) (Q' : α → Hp → Prop) : Prop := ∀ v d σ' H' K', Gw H σ K H' σ' K' → Wd c.K H' σ' K' → R H' v d → Q d σ' → Q' v K'
theorem Fo.next {α β : Type} {c : Ct} {R : Hp → α → β → Prop} {H H' K K' : Hp} {σ σ' : Sg} {Q : β → Sg → Prop} {Q' : α → Hp → Prop} (f : Fo c R H σ K Q Q') (s : Gw H σ K H' σ' K') : Fo c R H' σ' K' Q Q' := fun v d σ' H2 K2 s2 => f v d σ' H2 K2 (s.trans s2)
abbrev RB : Hp → Bool → Bool → Prop := fun _ a b => a = b

structure TE (c : Ct) (e : Expr) (ρ : EnvT) (σ : Sg) (Q : DT → Sg → Prop) (E : TX) : Prop where
  run : ∀ X, Con c X → ∀ st H K, Wd c.K H σ K → REnv c.K H ρ st → XC c H σ K st E → ∀ Q' : VK, Fo c (Rep c.K) H σ K Q Q' → cE X e st K Q'
structure TT (c : Ct) (e : Expr) (ρ : EnvT) (σ : Sg) (Q : Bool → Sg → Prop) (E : TX) : Prop where
  run : ∀ X, Con c X → ∀ st H K, Wd c.K H σ K → REnv c.K H ρ st → XC c H σ K st E → ∀ Q' : Bool → Hp → Prop, Fo c RB H σ K Q Q' → cT X e st K Q'
structure TW (c : Ct) (e : Expr) (ρ : EnvT) (σ : Sg) (Q : Bool → Sg → Prop) (E : TX) : Prop where
  run : ∀ X, Con c X → ∀ st H K, Wd c.K H σ K → REnv c.K H ρ st → XC c H σ K st E → ∀ Q' : Bool → Hp → Prop, Fo c RB H σ K Q Q' → cW X e st K Q'
structure TA (c : Ct) (es : List Expr) (ρ : EnvT) (σ : Sg) (Q : List DT → Sg → Prop) (E : TX) : Prop where
  run : ∀ X, Con c X → ∀ st H K, Wd c.K H σ K → REnv c.K H ρ st → XC c H σ K st E → ∀ Q' : List V → Hp → Prop, Fo c (RepA c.K) H σ K Q Q' → cA X es st K Q'
/-- operations by values: they leave the cells as they are -/
structure PO2 (c : Ct) (f : Value → Value → Sem Value) (x y : DT) (σ : Sg) (d : DT) : Prop where
  run : ∀ X, Con c X → ∀ H K, Wd c.K H σ K → ∀ v u, Rep c.K H v x → Rep c.K H u y → ∀ Q' : VK, (∀ r H' K', Gw H σ K H' σ K' → Wd c.K H' σ K' → Rep c.K H' r d → Q' r K') → cO X f v u K Q'
structure PO1 (c : Ct) (f : Value → Sem Value) (x : DT) (σ : Sg) (d : DT) : Prop where
  run : ∀ X, Con c X → ∀ H K, Wd c.K H σ K → ∀ v, Rep c.K H v x → ∀ Q' : VK, (∀ r H' K', Gw H σ K H' σ K' → Wd c.K H' σ K' → Rep c.K H' r d → Q' r K') → cU X f v K Q'
structure POI (c : Ct) (x y : DT) (σ : Sg) (d : DT) : Prop where
  run : ∀ X, Con c X → ∀ H K, Wd c.K H σ K → ∀ v u, Rep c.K H v x → Rep c.K H u y → ∀ Q' : VK, (∀ r H' K', Gw H σ K H' σ K' → Wd c.K H' σ K' → Rep c.K H' r d → Q' r K') → cI X v u K Q'
structure POL (c : Ct) (x : DT) (lo hi : Option Int) (σ : Sg) (d : DT) : Prop where
  run : ∀ X, Con c X → ∀ H K, Wd c.K H σ K → ∀ v, Rep c.K H v x → ∀ Q' : VK, (∀ r H' K', Gw H σ K H' σ K' → Wd c.K H' σ K' → Rep c.K H' r d → Q' r K') → cL X v lo hi K Q'
structure POF (c : Ct) (f : Value) (xs : List DT) (σ : Sg) (d : DT) : Prop where
  run : ∀ X, Con c X → ∀ H K, Wd c.K H σ K → ∀ vs, RepA c.K H vs xs → ∀ Q' : VK, (∀ r H' K', Gw H σ K H' σ K' → Wd c.K H' σ K' → Rep c.K H' r d → Q' r K') → cF X f vs K Q'
/-- a method by values: it may change cells -/
structure TOM (c : Ct) (id : String) (x : DT) (xs : List DT) (σ : Sg) (Q : DT → Sg → Prop) : Prop where
  run : ∀ X, Con c X → ∀ H K, Wd c.K H σ K → ∀ v vs, Rep c.K H v x → RepA c.K H vs xs → ∀ Q' : VK, Fo c (Rep c.K) H σ K Q Q' → cM X id v vs K Q'
/-- e is d, and nothing changes -/
structure TV (c : Ct) (e : Expr) (ρ : EnvT) (σ : Sg) (d : DT) : Prop where
  to : ∀ {Q : DT → Sg → Prop} {E : TX}, Q d σ → TE c e ρ σ Q E
structure TB (c : Ct) (e : Expr) (ρ : EnvT) (σ : Sg) (b : Bool) : Prop where
  to : ∀ {Q : Bool → Sg → Prop} {E : TX}, Q b σ → TT c e ρ σ Q E
structure TBW (c : Ct) (e : Expr) (ρ : EnvT) (σ : Sg) (b : Bool) : Prop where
  to : ∀ {Q : Bool → Sg → Prop} {E : TX}, Q b σ → TW c e ρ σ Q E
structure TVA (c : Ct) (es : List Expr) (ρ : EnvT) (σ : Sg) (ds : List DT) : Prop where
  to : ∀ {Q : List DT → Sg → Prop} {E : TX}, Q ds σ → TA c es ρ σ Q E
section
variable {c : Ct} {ρ : EnvT} {σ : Sg} {Q : DT → Sg → Prop} {QB : Bool → Sg → Prop} {QA : List DT → Sg → Prop} {E : TX} {e a b t : Expr} {es rest : List Expr} {pos p : Pos} {d x y : DT} {ds : List DT}
theorem TE.imp {Q1 : DT → Sg → Prop} (h : TE c e ρ σ Q E) (k : ∀ d σ', Q d σ' → Q1 d σ') : TE c e ρ σ Q1 E := ⟨fun X hX st H K w r xc Q' f => h.run X hX st H K w r xc Q' fun v d σ' H' K' s w' rv q => f v d σ' H' K' s w' rv (k d σ' q)⟩
theorem TT.imp {Q1 : Bool → Sg → Prop} (h : TT c e ρ σ QB E) (k : ∀ d σ', QB d σ' → Q1 d σ') : TT c e ρ σ Q1 E := ⟨fun X hX st H K w r xc Q' f => h.run X hX st H K w r xc Q' fun v d σ' H' K' s w' rv q => f v d σ' H' K' s w' rv (k d σ' q)⟩
theorem TA.imp {Q1 : List DT → Sg → Prop} (h : TA c es ρ σ QA E) (k : ∀ d σ', QA d σ' → Q1 d σ') : TA c es ρ σ Q1 E := ⟨fun X hX st H K w r xc Q' f => h.run X hX st H K w r xc Q' fun v d σ' H' K' s w' rv q => f v d σ' H' K' s w' rv (k d σ' q)⟩
theorem TV.cast (h : TV c e ρ σ x) (q : x = y) : TV c e ρ σ y := q ▸ h
theorem TV.castI {i j : Int} (h : TV c e ρ σ (.int i)) (q : i = j) : TV c e ρ σ (.int j) := q ▸ h
theorem TV.castS {i j : List Nat} (h : TV c e ρ σ (.str i)) (q : i = j) : TV c e ρ σ (.str j) := q ▸ h
theorem TV.castL {i j : List DT} (h : TV c e ρ σ (.lst i)) (q : i = j) : TV c e ρ σ (.lst j) := q ▸ h
theorem TV.castB {i j : Bool} (h : TV c e ρ σ (.bl i)) (q : i = j) : TV c e ρ σ (.bl j) := q ▸ h
theorem TB.cast {i j : Bool} (h : TB c e ρ σ i) (q : i = j) : TB c e ρ σ j := q ▸ h
/-- a cell that is read off as the result is known for good from now on -/
theorem te_frz (h : TE c e ρ σ (fun d σ1 => ∃ p k, d = .ref p ∧ σ1 p = some k ∧ Q k.tree (sd σ1 p)) E) : TE c e ρ σ Q E := ⟨fun X hX st H K w r xc Q' f => fun pins s I => by
  refine thn (h.run X hX st H K w r xc (fun v K1 => ∃ p k σ1 H1, v = .ref p ∧ Gw H σ K H1 σ1 K1 ∧ Wd c.K H1 σ1 K1 ∧ σ1 p = some k ∧ Q k.tree (sd σ1 p)) (fun v d σ1 H1 K1 s w1 rv ⟨p, k, e1, e2, q⟩ => ?_) pins s I) fun u s1 ⟨v, K1, I1, r1, p, k, σ1, H1, e1, s2, w1, e2, q⟩ => ?_
  · subst e1
    cases rv
    exact ⟨p, k, σ1, H1, rfl, s, w1, e2, q⟩
  · subst e1
    obtain ⟨H2, K2, I2, s3, w2, r2⟩ := w1.freeze e2 I1
    exact ⟨_, K2, I2, r1, f _ _ _ H2 K2 (s2.trans s3) w2 r2 q⟩⟩
theorem te_drop (p : Addr) (h : TE c e ρ σ (fun d σ1 => Q d (sd σ1 p)) E) : TE c e ρ σ Q E := ⟨fun X hX st H K w r xc Q' f => h.run X hX st H K w r xc Q' fun v d σ1 H1 K1 s w1 rv q => f v d _ H1 K1 s.drop w1.drop rv q⟩

/-! names, constants -/
def lkT (N : List Str) (ρ : EnvT) (x : Str) : Option DT := if N.idxOf x < N.length then (match ρ[N.idxOf x]? with | some (some d) => some d | _ => none) else none
theorem tv_nm {x : Str} (h : lkT c.N ρ x = some d) (hv : visB c.sc x = true) (hd : (x == ("__debug__" : Str)) = false := by decide) (hcd : (x == ("__classdict__" : Str)) = false := by decide) : TV c (.Name x pos) ρ σ d := ⟨fun {Q E} q => ⟨fun X hX st H K w r xc Q' f => by
  cases hX
  unfold lkT at h
  split at h
  · next hl =>
    split at h
    · next e =>
      cases h
      obtain ⟨v, e1, e2⟩ := r.get _ _ e
      exact cE_of (pe_var (by rw [List.getElem?_eq_getElem hl, List.getElem_idxOf]) (visB_vis hv) hd hcd) ⟨v, e1, f v d σ H K Gw.refl w e2 q⟩
    · cases h
  · cases h⟩⟩
theorem tv_int {i : Int} {k : Nat} : TV c (.Constant (.int i) k pos) ρ σ (.int i) := ⟨fun {Q E} q => ⟨fun X hX st H K w r xc Q' f => cE_of pe_int (f _ _ σ H K Gw.refl w (.int i) q)⟩⟩
theorem tv_str {i : Str} {k : Nat} : TV c (.Constant (.str i) k pos) ρ σ (.str (sOf i)) := ⟨fun {Q E} q => ⟨fun X hX st H K w r xc Q' f => cE_of pe_str (f _ _ σ H K Gw.refl w (by have := Rep.str (F := c.K) (H := H) (sOf i); rwa [S_sOf] at this) q)⟩⟩
theorem tv_bl {i : Bool} {k : Nat} : TV c (.Constant (.bool i) k pos) ρ σ (.bl i) := ⟨fun {Q E} q => ⟨fun X hX st H K w r xc Q' f => cE_of pe_bl (f _ _ σ H K Gw.refl w (.bl i) q)⟩⟩
theorem tv_non {k : Nat} : TV c (.Constant .none k pos) ρ σ .non := ⟨fun {Q E} q => ⟨fun X hX st H K w r xc Q' f => cE_of pe_non (f _ _ σ H K Gw.refl w .non q)⟩⟩
/-- a module's name -/
def GlT (F : PySem.W.Frag) (mg : Str → Option Value) (x : Str) (d : DT) : Prop := ∃ u v, mg x = some u ∧ RelV v u ∧ ∀ H, Rep F H v d
theorem tv_gl {x : Str} (hg : GlS c x) (h : GlT c.K c.mg x d) (hd : (x == ("__debug__" : Str)) = false := by decide) : TV c (.Name x pos) ρ σ d := ⟨fun {Q E} q => ⟨fun X hX st H K w r xc Q' f => by
  cases hX
  obtain ⟨u, v, hm, rv, rp⟩ := h
  exact cE_of (pe_glob hg hm rv hd) (f v d σ H K Gw.refl w (rp H) q)⟩⟩
theorem tv_ty {x : Str} {n : String} (hg : GlS c x) (hm : c.mg x = none) (hv : bootBuiltins x = some (.type n)) (hn : x ≠ "__name__" := by decide) (hd : (x == ("__debug__" : Str)) = false := by decide) : TV c (.Name x pos) ρ σ (.ty n) := ⟨fun {Q E} q => ⟨fun X hX st H K w r xc Q' f => by
  cases hX
  exact cE_of (pe_bltn (v := .ty n) hg hm hv rfl hn hd) (f (.ty n) _ σ H K Gw.refl w (.ty n) q)⟩⟩

/-! operators -/
theorem te_bin {op : Operator} (h : TE c a ρ σ (fun x σ1 => TE c b ρ σ1 (fun y σ2 => ∃ d, PO2 c (binaryOp op) x y σ2 d ∧ Q d σ2) E) E) : TE c (.BinOp a op b pos) ρ σ Q E := ⟨fun X hX st H K w r xc Q' f => by
  refine cE_of (pe_op cO_or cE_pe cE_pe) ?_
  refine h.run X hX st H K w r xc _ fun v x σ1 H1 K1 s1 w1 r1 h1 => ?_
  refine h1.run X hX st H1 K1 w1 (r.same s1.b) (xc.next s1) _ fun u y σ2 H2 K2 s2 w2 r2 ⟨d, h2, q⟩ => ?_
  exact h2.run X hX H2 K2 w2 v u (r1.same s2.b) r2 _ fun z H3 K3 s3 w3 r3 => f z d σ2 H3 K3 (s1.trans (s2.trans s3)) w3 r3 q⟩
theorem tv_bin {op : Operator} (ha : TV c a ρ σ x) (hb : TV c b ρ σ y) (ho : PO2 c (binaryOp op) x y σ d) : TV c (.BinOp a op b pos) ρ σ d := ⟨fun {Q E} q => te_bin (ha.to (hb.to ⟨d, ho, q⟩))⟩
theorem te_un {op : UnaryOp} (h : TE c a ρ σ (fun x σ1 => ∃ d, PO1 c (unaryOp op) x σ1 d ∧ Q d σ1) E) : TE c (.UnaryOp op a pos) ρ σ Q E := ⟨fun X hX st H K w r xc Q' f => by
  refine cE_of (pe_un cU_or cE_pe) ?_
  refine h.run X hX st H K w r xc _ fun v x σ1 H1 K1 s1 w1 r1 ⟨d, h1, q⟩ => ?_
  exact h1.run X hX H1 K1 w1 v r1 _ fun z H3 K3 s3 w3 r3 => f z d σ1 H3 K3 (s1.trans s3) w3 r3 q⟩
theorem tv_un {op : UnaryOp} (ha : TV c a ρ σ x) (ho : PO1 c (unaryOp op) x σ d) : TV c (.UnaryOp op a pos) ρ σ d := ⟨fun {Q E} q => te_un (ha.to ⟨d, ho, q⟩)⟩
theorem te_cmp {op : CmpOp} (h : TE c a ρ σ (fun x σ1 => TE c b ρ σ1 (fun y σ2 => ∃ d, PO2 c (compareOp op) x y σ2 d ∧ Q d σ2) E) E) (hm : behindInMarks op b = false) : TE c (.Compare a [op] [b] pos) ρ σ Q E := ⟨fun X hX st H K w r xc Q' f => by
  refine cE_of (pe_cmpR cO_or cE_pe cE_pe hm) ?_
  refine h.run X hX st H K w r xc _ fun v x σ1 H1 K1 s1 w1 r1 h1 => ?_
  refine h1.run X hX st H1 K1 w1 (r.same s1.b) (xc.next s1) _ fun u y σ2 H2 K2 s2 w2 r2 ⟨d, h2, q⟩ => ?_
  exact h2.run X hX H2 K2 w2 v u (r1.same s2.b) r2 _ fun z H3 K3 s3 w3 r3 => f z d σ2 H3 K3 (s1.trans (s2.trans s3)) w3 r3 q⟩
theorem tv_cmp {op : CmpOp} (ha : TV c a ρ σ x) (hb : TV c b ρ σ y) (ho : PO2 c (compareOp op) x y σ d) (hm : behindInMarks op b = false) : TV c (.Compare a [op] [b] pos) ρ σ d := ⟨fun {Q E} q => te_cmp (ha.to (hb.to ⟨d, ho, q⟩)) hm⟩
theorem tt_cmp {op : CmpOp} (h : TE c a ρ σ (fun x σ1 => TE c b ρ σ1 (fun y σ2 => ∃ r, PO2 c (compareOp op) x y σ2 (.bl r) ∧ QB r σ2) E) E) (hm : behindInMarks op b = false) : TT c (.Compare a [op] [b] pos) ρ σ QB E := ⟨fun X hX st H K w r xc Q' f => by
  refine cT_of (pt_cmpR cO_or cE_pe cE_pe hm) ?_
  refine h.run X hX st H K w r xc _ fun v x σ1 H1 K1 s1 w1 r1 h1 => ?_
  refine h1.run X hX st H1 K1 w1 (r.same s1.b) (xc.next s1) _ fun u y σ2 H2 K2 s2 w2 r2 ⟨d, h2, q⟩ => ?_
  refine h2.run X hX H2 K2 w2 v u (r1.same s2.b) r2 _ fun z H3 K3 s3 w3 r3 => ?_
  cases r3
  exact ⟨d, rfl, f d d σ2 H3 K3 (s1.trans (s2.trans s3)) w3 rfl q⟩⟩
theorem tb_cmp {op : CmpOp} {r : Bool} (ha : TV c a ρ σ x) (hb : TV c b ρ σ y) (ho : PO2 c (compareOp op) x y σ (.bl r)) (hm : behindInMarks op b = false) : TB c (.Compare a [op] [b] pos) ρ σ r := ⟨fun {Q E} q => tt_cmp (ha.to (hb.to ⟨r, ho, q⟩)) hm⟩
theorem te_sub (h : TE c a ρ σ (fun x σ1 => TE c b ρ σ1 (fun y σ2 => ∃ d, POI c x y σ2 d ∧ Q d σ2) E) E) (hs : PlainIx b := by exact fun _ _ => rfl) : TE c (.Subscript a b pos) ρ σ Q E := ⟨fun X hX st H K w r xc Q' f => by
  refine cE_of (pe_ix cI_ix cE_pe cE_pe hs) ?_
  refine h.run X hX st H K w r xc _ fun v x σ1 H1 K1 s1 w1 r1 h1 => ?_
  refine h1.run X hX st H1 K1 w1 (r.same s1.b) (xc.next s1) _ fun u y σ2 H2 K2 s2 w2 r2 ⟨d, h2, q⟩ => ?_
  exact h2.run X hX H2 K2 w2 v u (r1.same s2.b) r2 _ fun z H3 K3 s3 w3 r3 => f z d σ2 H3 K3 (s1.trans (s2.trans s3)) w3 r3 q⟩
theorem tv_sub (ha : TV c a ρ σ x) (hb : TV c b ρ σ y) (ho : POI c x y σ d) (hs : PlainIx b := by exact fun _ _ => rfl) : TV c (.Subscript a b pos) ρ σ d := ⟨fun {Q E} q => te_sub (ha.to (hb.to ⟨d, ho, q⟩)) hs⟩
/-- an optional part of a slice -/
def TO (c : Ct) (o : Option Expr) (ρ : EnvT) (σ : Sg) (Q : Option Int → Sg → Prop) (E : TX) : Prop :=
  match o with
  | none => Q none σ
  | some e => TE c e ρ σ (fun d σ1 => ∃ i, d = .int i ∧ Q (some i) σ1) E
theorem te_slice {lo hi : Option Expr} {p2 : Pos} (h : TE c a ρ σ (fun x σ1 => TO c lo ρ σ1 (fun l σ2 => TO c hi ρ σ2 (fun u σ3 => ∃ d, POL c x l u σ3 d ∧ Q d σ3) E) E) E) : TE c (.Subscript a (.Slice lo hi none p2) pos) ρ σ Q E := ⟨fun X hX st H K w r xc Q' f => by
  cases lo with
  | none =>
    cases hi with
    | none =>
      refine cE_of (pe_slice cL_sl cE_pe po_none po_none) ?_
      refine h.run X hX st H K w r xc _ fun v x σ1 H1 K1 s1 w1 r1 h1 => ?_
      obtain ⟨d, h2, q⟩ := h1
      exact h2.run X hX H1 K1 w1 v r1 _ fun z H3 K3 s3 w3 r3 => f z d σ1 H3 K3 (s1.trans s3) w3 r3 q
    | some u =>
      refine cE_of (pe_slice cL_sl cE_pe po_none (po_some cE_pe)) ?_
      refine h.run X hX st H K w r xc _ fun v x σ1 H1 K1 s1 w1 r1 h1 => ?_
      refine TE.run h1 X hX st H1 K1 w1 (r.same s1.b) (xc.next s1) _ fun u y σ2 H2 K2 s2 w2 r2 ⟨i, ei, d, h2, q⟩ => ?_
      subst ei
      cases r2
      exact ⟨i, rfl, h2.run X hX H2 K2 w2 v (r1.same s2.b) _ fun z H3 K3 s3 w3 r3 => f z d σ2 H3 K3 (s1.trans (s2.trans s3)) w3 r3 q⟩
  | some l =>
    cases hi with
    | none =>
      refine cE_of (pe_slice cL_sl cE_pe (po_some cE_pe) po_none) ?_
      refine h.run X hX st H K w r xc _ fun v x σ1 H1 K1 s1 w1 r1 h1 => ?_
      refine TE.run h1 X hX st H1 K1 w1 (r.same s1.b) (xc.next s1) _ fun u y σ2 H2 K2 s2 w2 r2 ⟨i, ei, h2⟩ => ?_
      obtain ⟨d, h2, q⟩ := h2
      subst ei
      cases r2
      exact ⟨i, rfl, h2.run X hX H2 K2 w2 v (r1.same s2.b) _ fun z H3 K3 s3 w3 r3 => f z d σ2 H3 K3 (s1.trans (s2.trans s3)) w3 r3 q⟩
    | some u =>
      refine cE_of (pe_slice cL_sl cE_pe (po_some cE_pe) (po_some cE_pe)) ?_
      refine h.run X hX st H K w r xc _ fun v x σ1 H1 K1 s1 w1 r1 h1 => ?_
      refine TE.run h1 X hX st H1 K1 w1 (r.same s1.b) (xc.next s1) _ fun u y σ2 H2 K2 s2 w2 r2 ⟨i, ei, h2⟩ => ?_
      subst ei
      cases r2
      refine ⟨i, rfl, ?_⟩
      refine TE.run h2 X hX st H2 K2 w2 (r.same (s1.trans s2).b) (xc.next (s1.trans s2)) _ fun u y σ3 H3 K3 s3 w3 r3 ⟨j, ej, d, h3, q⟩ => ?_
      subst ej
      cases r3
      exact ⟨j, rfl, h3.run X hX H3 K3 w3 v (r1.same (s2.trans s3).b) _ fun z H4 K4 s4 w4 r4 => f z d σ3 H4 K4 (s1.trans (s2.trans (s3.trans s4))) w4 r4 q⟩⟩
/-- .. by values -/
structure TVO (c : Ct) (o : Option Expr) (ρ : EnvT) (σ : Sg) (i : Option Int) : Prop where
  to : ∀ {Q : Option Int → Sg → Prop} {E : TX}, Q i σ → TO c o ρ σ Q E
theorem to_none : TVO c none ρ σ none := ⟨fun q => q⟩
theorem to_some {i : Int} (h : TV c e ρ σ (.int i)) : TVO c (some e) ρ σ (some i) := ⟨fun q => h.to ⟨i, rfl, q⟩⟩
theorem tv_slice {lo hi : Option Expr} {l u : Option Int} {p2 : Pos} (ha : TV c a ρ σ x) (hl : TVO c lo ρ σ l) (hu : TVO c hi ρ σ u) (ho : POL c x l u σ d) : TV c (.Subscript a (.Slice lo hi none p2) pos) ρ σ d :=
  ⟨fun {Q E} q => te_slice (ha.to (hl.to (hu.to ⟨d, ho, q⟩)))⟩

/-! arguments, displays -/
theorem ta_nil (h : QA [] σ) : TA c [] ρ σ QA E := ⟨fun X hX st H K w r xc Q' f => cA_of pa_nil (f [] [] σ H K Gw.refl w .nil h)⟩
theorem ta_cons (h : TE c a ρ σ (fun x σ1 => TA c es ρ σ1 (fun xs σ2 => QA (x :: xs) σ2) E) E) (hs : ∀ env, starEach (a :: es) env = (false, eval a env) :: starEach es env := by intro _; rfl) : TA c (a :: es) ρ σ QA E := ⟨fun X hX st H K w r xc Q' f => by
  refine cA_of (pa_cons cE_pe cA_pa (hs _)) ?_
  refine h.run X hX st H K w r xc _ fun v x σ1 H1 K1 s1 w1 r1 h1 => ?_
  exact h1.run X hX st H1 K1 w1 (r.same s1.b) (xc.next s1) _ fun us xs σ2 H2 K2 s2 w2 r2 q => f (v :: us) (x :: xs) σ2 H2 K2 (s1.trans s2) w2 (.cons (r1.same s2.b) r2) q⟩
theorem tva_nil : TVA c [] ρ σ [] := ⟨fun q => ta_nil q⟩
theorem tva_cons (ha : TV c a ρ σ x) (hb : TVA c es ρ σ ds) (hs : ∀ env, starEach (a :: es) env = (false, eval a env) :: starEach es env := by intro _; rfl) : TVA c (a :: es) ρ σ (x :: ds) := ⟨fun q => ta_cons (ha.to (hb.to q)) hs⟩
theorem te_lst (h : TA c es ρ σ (fun ds σ1 => ds.length ≤ 16777216 ∧ Q (.lst ds) σ1) E) : TE c (.List es pos) ρ σ Q E := ⟨fun X hX st H K w r xc Q' f => by
  refine cE_of (pe_lst cA_pa) ?_
  refine h.run X hX st H K w r xc _ fun vs ds σ1 H1 K1 s1 w1 r1 ⟨hl, q⟩ => ?_
  refine ⟨by rw [sizeLine_eq, r1.length]; exact hl, fun p hp => ?_⟩
  obtain ⟨s2, w2⟩ := w1.new (o := .lst vs) hp
  exact f _ _ σ1 _ _ (s1.trans s2) w2 (.lst upd_same (r1.same s2.b)) q⟩
/-- .. that is to change -/
theorem te_lstC (h : TA c es ρ σ (fun ds σ1 => ds.length ≤ 16777216 ∧ ∀ p, σ1 p = none → Q (.ref p) (su σ1 p (.lst ds))) E) : TE c (.List es pos) ρ σ Q E := ⟨fun X hX st H K w r xc Q' f => by
  refine cE_of (pe_lst cA_pa) ?_
  refine h.run X hX st H K w r xc _ fun vs ds σ1 H1 K1 s1 w1 r1 ⟨hl, q⟩ => ?_
  refine ⟨by rw [sizeLine_eq, r1.length]; exact hl, fun p hp => ?_⟩
  exact f _ _ _ H1 _ (s1.trans (Gw.newC hp)) ((w1.push (o := .lst vs) hp).add (c := .lst ds) (none_of w1.le hp) ⟨vs, upd_same, r1⟩) (.ref p) (q p (w1.free hp))⟩
theorem te_tup {k : Nat} (h : TA c es ρ σ (fun ds σ1 => ds.length ≤ 16777216 ∧ Q (.tup ds) σ1) E) : TE c (.Tuple es k pos) ρ σ Q E := ⟨fun X hX st H K w r xc Q' f => by
  refine cE_of (pe_tup cA_pa) ?_
  refine h.run X hX st H K w r xc _ fun vs ds σ1 H1 K1 s1 w1 r1 ⟨hl, q⟩ => ?_
  refine ⟨by rw [sizeLine_eq, r1.length]; exact hl, fun p hp => ?_⟩
  obtain ⟨s2, w2⟩ := w1.new (o := .tup vs) hp
  exact f _ _ σ1 _ _ (s1.trans s2) w2 (.tup (SqT.of upd_same) (r1.same s2.b)) q⟩
theorem tv_lst (h : TVA c es ρ σ ds) (hl : ds.length ≤ 16777216 := by exact Nat.le_of_ble_eq_true rfl) : TV c (.List es pos) ρ σ (.lst ds) := ⟨fun q => te_lst (h.to ⟨hl, q⟩)⟩
theorem tv_tup {k : Nat} (h : TVA c es ρ σ ds) (hl : ds.length ≤ 16777216 := by exact Nat.le_of_ble_eq_true rfl) : TV c (.Tuple es k pos) ρ σ (.tup ds) := ⟨fun q => te_tup (h.to ⟨hl, q⟩)⟩

/-! tests -/
theorem tt_val (h : TE c e ρ σ (fun d σ1 => ∃ r, d = .bl r ∧ QB r σ1) E)
    (he : ∀ env whole, isTrue e env whole = (do let v ← whole; standAt e.pos; holding [v] (truthy v)) := by intro _ _; rfl) : TT c e ρ σ QB E := ⟨fun X hX st H K w r xc Q' f => by
  refine cT_of (pt_val cE_pe (he _)) ?_
  refine h.run X hX st H K w r xc _ fun v d σ1 H1 K1 s1 w1 r1 ⟨b, e1, q⟩ => ?_
  subst e1
  cases r1
  exact ⟨b, rfl, f b b σ1 H1 K1 s1 w1 rfl q⟩⟩
theorem tb_val {r : Bool} (h : TV c e ρ σ (.bl r)) (he : ∀ env whole, isTrue e env whole = (do let v ← whole; standAt e.pos; holding [v] (truthy v)) := by intro _ _; rfl) : TB c e ρ σ r := ⟨fun q => tt_val (h.to ⟨r, rfl, q⟩) he⟩
theorem tt_not (h : TT c a ρ σ (fun r σ1 => QB (!r) σ1) E) : TT c (.UnaryOp .Not a pos) ρ σ QB E := ⟨fun X hX st H K w r xc Q' f => by
  refine cT_of (pt_not cT_pt) ?_
  exact h.run X hX st H K w r xc _ fun v d σ1 H1 K1 s1 w1 r1 q => f (!v) (!d) σ1 H1 K1 s1 w1 (congrArg (!·) r1) q⟩
theorem tb_not {r : Bool} (h : TB c a ρ σ r) : TB c (.UnaryOp .Not a pos) ρ σ (!r) := ⟨fun q => tt_not (h.to q)⟩
theorem tt_W (h : TW c e ρ σ QB E) : TT c e ρ σ QB E := ⟨fun X hX st H K w r xc Q' f => cT_of cW_pw.pt (h.run X hX st H K w r xc Q' f)⟩
theorem tb_W {r : Bool} (h : TBW c e ρ σ r) : TB c e ρ σ r := ⟨fun q => tt_W (h.to q)⟩
theorem tw_and1 (h : TT c a ρ σ QB E) : TW c (.BoolOp .And [a] pos) ρ σ QB E := ⟨fun X hX st H K w r xc Q' f => cW_of (pw_and1 cT_pt) (h.run X hX st H K w r xc Q' f)⟩
theorem tw_or1 (h : TT c a ρ σ QB E) : TW c (.BoolOp .Or [a] pos) ρ σ QB E := ⟨fun X hX st H K w r xc Q' f => cW_of (pw_or1 cT_pt) (h.run X hX st H K w r xc Q' f)⟩
theorem tw_and (h : TT c a ρ σ (fun r σ1 => (r = true → TW c (.BoolOp .And (b :: rest) pos) ρ σ1 QB E) ∧ (r = false → QB false σ1)) E) : TW c (.BoolOp .And (a :: b :: rest) pos) ρ σ QB E := ⟨fun X hX st H K w r xc Q' f => by
  refine cW_of (pw_and cT_pt cW_pw) ?_
  refine h.run X hX st H K w r xc _ fun v d σ1 H1 K1 s1 w1 r1 ⟨h1, h2⟩ => ?_
  subst r1
  cases v with
  | true => exact iteT ((h1 rfl).run X hX st H1 K1 w1 (r.same s1.b) (xc.next s1) _ fun v d σ2 H2 K2 s2 w2 r2 q => f v d σ2 H2 K2 (s1.trans s2) w2 r2 q)
  | false => exact iteF (f false false σ1 H1 K1 s1 w1 rfl (h2 rfl))⟩
theorem tw_or (h : TT c a ρ σ (fun r σ1 => (r = false → TW c (.BoolOp .Or (b :: rest) pos) ρ σ1 QB E) ∧ (r = true → QB true σ1)) E) : TW c (.BoolOp .Or (a :: b :: rest) pos) ρ σ QB E := ⟨fun X hX st H K w r xc Q' f => by
  refine cW_of (pw_or cT_pt cW_pw) ?_
  refine h.run X hX st H K w r xc _ fun v d σ1 H1 K1 s1 w1 r1 ⟨h1, h2⟩ => ?_
  subst r1
  cases v with
  | false => exact iteF ((h1 rfl).run X hX st H1 K1 w1 (r.same s1.b) (xc.next s1) _ fun v d σ2 H2 K2 s2 w2 r2 q => f v d σ2 H2 K2 (s1.trans s2) w2 r2 q)
  | true => exact iteT (f true true σ1 H1 K1 s1 w1 rfl (h2 rfl))⟩
theorem tbw_and1 {r : Bool} (h : TB c a ρ σ r) : TBW c (.BoolOp .And [a] pos) ρ σ r := ⟨fun q => tw_and1 (h.to q)⟩
theorem tbw_or1 {r : Bool} (h : TB c a ρ σ r) : TBW c (.BoolOp .Or [a] pos) ρ σ r := ⟨fun q => tw_or1 (h.to q)⟩
theorem tbw_and {r s : Bool} (h : TB c a ρ σ r) (h2 : r = true → TBW c (.BoolOp .And (b :: rest) pos) ρ σ s) : TBW c (.BoolOp .And (a :: b :: rest) pos) ρ σ (r && s) := ⟨fun {Q E} q => tw_and (h.to ⟨fun e => (h2 e).to (by rw [e] at q; exact q), fun e => by rw [e] at q; exact q⟩)⟩
theorem tbw_or {r s : Bool} (h : TB c a ρ σ r) (h2 : r = false → TBW c (.BoolOp .Or (b :: rest) pos) ρ σ s) : TBW c (.BoolOp .Or (a :: b :: rest) pos) ρ σ (r || s) := ⟨fun {Q E} q => tw_or (h.to ⟨fun e => (h2 e).to (by rw [e] at q; exact q), fun e => by rw [e] at q; exact q⟩)⟩
/-! and, or, not as values -/
theorem te_one {op : BoolOp} (h : TE c a ρ σ Q E) : TE c (.BoolOp op [a] pos) ρ σ Q E := ⟨fun X hX st H K w r xc Q' f => cE_of (pe_one cE_pe) (h.run X hX st H K w r xc Q' f)⟩
theorem te_and (h : TE c a ρ σ (fun d σ1 => ∃ r, d = .bl r ∧ (r = true → TE c (.BoolOp .And (b :: rest) pos) ρ σ1 Q E) ∧ (r = false → Q (.bl false) σ1)) E) : TE c (.BoolOp .And (a :: b :: rest) pos) ρ σ Q E := ⟨fun X hX st H K w r xc Q' f => by
  refine cE_of (pe_and cE_pe cE_pe) ?_
  refine h.run X hX st H K w r xc _ fun v d σ1 H1 K1 s1 w1 r1 ⟨t, e1, h1, h2⟩ => ?_
  subst e1
  cases r1
  refine ⟨t, rfl, ?_⟩
  cases t with
  | true => exact iteT ((h1 rfl).run X hX st H1 K1 w1 (r.same s1.b) (xc.next s1) _ fun v d σ2 H2 K2 s2 w2 r2 q => f v d σ2 H2 K2 (s1.trans s2) w2 r2 q)
  | false => exact iteF (f _ _ σ1 H1 K1 s1 w1 (.bl false) (h2 rfl))⟩
theorem te_or (h : TE c a ρ σ (fun d σ1 => ∃ r, d = .bl r ∧ (r = false → TE c (.BoolOp .Or (b :: rest) pos) ρ σ1 Q E) ∧ (r = true → Q (.bl true) σ1)) E) : TE c (.BoolOp .Or (a :: b :: rest) pos) ρ σ Q E := ⟨fun X hX st H K w r xc Q' f => by
  refine cE_of (pe_or cE_pe cE_pe) ?_
  refine h.run X hX st H K w r xc _ fun v d σ1 H1 K1 s1 w1 r1 ⟨t, e1, h1, h2⟩ => ?_
  subst e1
  cases r1
  refine ⟨t, rfl, ?_⟩
  cases t with
  | false => exact iteF ((h1 rfl).run X hX st H1 K1 w1 (r.same s1.b) (xc.next s1) _ fun v d σ2 H2 K2 s2 w2 r2 q => f v d σ2 H2 K2 (s1.trans s2) w2 r2 q)
  | true => exact iteT (f _ _ σ1 H1 K1 s1 w1 (.bl true) (h2 rfl))⟩
theorem tv_one {op : BoolOp} (h : TV c a ρ σ d) : TV c (.BoolOp op [a] pos) ρ σ d := ⟨fun q => te_one (h.to q)⟩
theorem tv_and {r s : Bool} (h : TV c a ρ σ (.bl r)) (h2 : r = true → TV c (.BoolOp .And (b :: rest) pos) ρ σ (.bl s)) : TV c (.BoolOp .And (a :: b :: rest) pos) ρ σ (.bl (r && s)) := ⟨fun {Q E} q => te_and (h.to ⟨r, rfl, fun e => (h2 e).to (by rw [e] at q; exact q), fun e => by rw [e] at q; exact q⟩)⟩
theorem tv_or {r s : Bool} (h : TV c a ρ σ (.bl r)) (h2 : r = false → TV c (.BoolOp .Or (b :: rest) pos) ρ σ (.bl s)) : TV c (.BoolOp .Or (a :: b :: rest) pos) ρ σ (.bl (r || s)) := ⟨fun {Q E} q => te_or (h.to ⟨r, rfl, fun e => (h2 e).to (by rw [e] at q; exact q), fun e => by rw [e] at q; exact q⟩)⟩
theorem te_not (h : TE c a ρ σ (fun d σ1 => ∃ r, d = .bl r ∧ Q (.bl (!r)) σ1) E) : TE c (.UnaryOp .Not a pos) ρ σ Q E := ⟨fun X hX st H K w r xc Q' f => by
  refine cE_of (pe_not cE_pe) ?_
  refine h.run X hX st H K w r xc _ fun v d σ1 H1 K1 s1 w1 r1 ⟨t, e1, q⟩ => ?_
  subst e1
  cases r1
  exact ⟨t, rfl, f _ _ σ1 H1 K1 s1 w1 (.bl _) q⟩⟩
theorem tv_not {r : Bool} (h : TV c a ρ σ (.bl r)) : TV c (.UnaryOp .Not a pos) ρ σ (.bl (!r)) := ⟨fun q => te_not (h.to ⟨r, rfl, q⟩)⟩
/-- a if t else b -/
theorem te_if (h : TT c t ρ σ (fun r σ1 => (r = true → TE c a ρ σ1 Q E) ∧ (r = false → TE c b ρ σ1 Q E)) E) : TE c (.IfExp t a b pos) ρ σ Q E := ⟨fun X hX st H K w r xc Q' f => by
  refine cE_of (pe_ifExp cT_pt cE_pe cE_pe) ?_
  refine h.run X hX st H K w r xc _ fun v d σ1 H1 K1 s1 w1 r1 ⟨h1, h2⟩ => ?_
  subst r1
  cases v with
  | true => exact iteT ((h1 rfl).run X hX st H1 K1 w1 (r.same s1.b) (xc.next s1) _ (Fo.next f s1))
  | false => exact iteF ((h2 rfl).run X hX st H1 K1 w1 (r.same s1.b) (xc.next s1) _ (Fo.next f s1))⟩
theorem tv_if {r : Bool} (h : TB c t ρ σ r) (h1 : r = true → TV c a ρ σ x) (h2 : r = false → TV c b ρ σ y) : TV c (.IfExp t a b pos) ρ σ (if r = true then x else y) := ⟨fun {Q E} q => te_if (h.to ⟨fun e => (h1 e).to (by rw [if_pos e] at q; exact q), fun e => (h2 e).to (by rw [if_neg (by rw [e]; decide)] at q; exact q)⟩)⟩
/-- a < b < d -/
theorem tv_chain {d3 : Expr} {z : DT} {o o' : CmpOp} {r s : Bool} (ha : TV c a ρ σ x) (hb : TV c b ρ σ y) (hd : r = true → TV c d3 ρ σ z) (ho : PO2 c (compareOp o) x y σ (.bl r)) (ho' : r = true → PO2 c (compareOp o') y z σ (.bl s))
    (hm : lastMarks [o, o'] [b, d3] = false := by with_unfolding_all rfl) : TV c (.Compare a [o, o'] [b, d3] pos) ρ σ (.bl (r && s)) := ⟨fun {Q E} q => ⟨fun X hX st H K w rr xc Q' f => by
  refine cE_of (pe_chain cO_or cO_or cE_pe cE_pe cE_pe hm) ?_
  refine (ha.to (Q := fun d σ' => d = x ∧ σ' = σ) ⟨rfl, rfl⟩).run X hX st H K w rr xc _ fun v d1 σ1 H1 K1 s1 w1 r1 ⟨z1, z2⟩ => ?_
  subst z1 z2
  refine (hb.to (Q := fun d σ' => d = y ∧ σ' = σ1) ⟨rfl, rfl⟩).run X hX st H1 K1 w1 (rr.same s1.b) (xc.next s1) _ fun u d2 σ2 H2 K2 s2 w2 r2 ⟨z1, z2⟩ => ?_
  subst z1 z2
  refine ho.run X hX H2 K2 w2 v u (r1.same s2.b) r2 _ fun q1 H3 K3 s3 w3 r3 => ?_
  cases r3
  refine ⟨r, rfl, ?_⟩
  cases r with
  | false => exact iteF (f _ _ _ H3 K3 (s1.trans (s2.trans s3)) w3 (.bl false) q)
  | true =>
    refine iteT ?_
    refine ((hd rfl).to (Q := fun d σ' => d = z ∧ σ' = σ2) ⟨rfl, rfl⟩).run X hX st H3 K3 w3 (rr.same (s1.trans (s2.trans s3)).b) (xc.next (s1.trans (s2.trans s3))) _ fun u3 d3 σ3 H4 K4 s4 w4 r4 ⟨z1, z2⟩ => ?_
    subst z1 z2
    exact (ho' rfl).run X hX H4 K4 w4 u u3 (r2.same (s3.trans s4).b) r4 _ fun q2 H5 K5 s5 w5 r5 => f _ _ _ H5 K5 (s1.trans (s2.trans (s3.trans (s4.trans s5)))) w5 r5 q⟩⟩
end
end Y

/-! Y2: calls, methods, what is walked, comprehensions. -/
namespace Y
open PySem PySem.Spec L2 SX Z
open PyProof.Rows (subscriptTail)
/-! ### calls -/
abbrev TSpec := List DT → Sg → (DT → Sg → Prop) → TX → Prop
def spT (F : PySem.W.Frag) (spec : TSpec) : Sp := fun vs K Q E => ∃ ds H σ Qd Ed, Wd F H σ K ∧ RepA F H vs ds ∧ spec ds σ Qd Ed ∧
  (∀ v d σ' H' K', Gw H σ K H' σ' K' → Wd F H' σ' K' → Rep F H' v d → Qd d σ' → Q v K') ∧ (∀ cls dA x σ' H' K', Gw H σ K H' σ' K' → Wd F H' σ' K' → XRep F H' dA x → Ed cls x σ' → E cls dA K')
/-- a def that keeps its promise -/
def DtQ (hp : HP) (P : Program) (w : World) (F : PySem.W.Frag) (mg : Str → Option Value) (base : Heap) (x : Str) (ps : List Str) (k : Nat) (spec : TSpec) : Prop :=
  ∃ f fd, mg x = some (.ref f) ∧ PySem.W.keepIn F (.ref f) = true ∧ Binds F fd ps [] ∧ FnC hp P w F mg base k f fd ps (spT F spec)
abbrev Dt := DtQ none
section
variable {c : Ct} {ρ : EnvT} {σ : Sg} {Q : DT → Sg → Prop} {QA : List DT → Sg → Prop} {E : TX} {e a b t o : Expr} {es rest : List Expr} {pos p apos : Pos} {d x y : DT} {ds : List DT}
theorem te_own {f : Str} {ps : List Str} {k : Nat} {spec : TSpec} (dt : DtQ c.hp c.P c.w c.K c.mg c.base f ps k spec) (hk : k ≤ c.k) (hg : GlS c f) (h : TA c (a :: es) ρ σ (fun ds σ1 => spec ds σ1 Q E) E) (hdb : (f == ("__debug__" : Str)) = false := by decide)
    (he : ∀ env, starEach (a :: es) env = (false, eval a env) :: starEach es env := by intro _; rfl) (hpl : ∀ pos env, (backTo pos (starEach es env)).any (·.1) = false := by intro _ _; rfl) : TE c (.Call (.Name f p) (a :: es) [] pos) ρ σ Q E := ⟨fun X hX st H K w r xc Q' fo => by
  obtain ⟨fa, fd, hm, kp, hb, F⟩ := dt
  have hX' := hX
  cases hX' with
  | mk _ k' Wx fl hpp hrH hcf hh hp' ht hf hN hU hst =>
    refine cE_of (pe_callC (W := Wx) F (hrH.mono hk) (fun e => (hcf e).2.hd) hh hU hg hm kp hb ht cA_pa hdb (he _) (hpl _ _)) ?_
    refine h.run X hX st H K w r xc _ fun vs ds σ1 H1 K1 s1 w1 r1 q => ?_
    exact ⟨ds, H1, σ1, Q, E, w1, r1, q, fun v d σ' H' K' s => fo v d σ' H' K' (s1.trans s), fun cls dA x σ' H' K' s => xc cls dA x σ' H' K' (s1.trans s)⟩⟩
theorem te_callB {f : Str} {id : String} (hg : GlS c f) (hm : c.mg f = none) (hv : bootBuiltins f = some (.builtin id)) (h : TA c (a :: es) ρ σ (fun ds σ1 => ∃ d, POF c (.builtin id) ds σ1 d ∧ Q d σ1) E) (hn : f ≠ "__name__" := by decide) (hdb : (f == ("__debug__" : Str)) = false := by decide)
    (he : ∀ env, starEach (a :: es) env = (false, eval a env) :: starEach es env := by intro _; rfl) (hpl : ∀ pos env, (backTo pos (starEach es env)).any (·.1) = false := by intro _ _; rfl) : TE c (.Call (.Name f p) (a :: es) [] pos) ρ σ Q E := ⟨fun X hX st H K w r xc Q' fo => by
  have hX' := hX
  cases hX' with
  | mk _ k' Wx fl hpp hrH hcf hh hp' ht hf hN hU hst =>
    refine cE_of (pe_callB cF_cr hg hm hv cA_pa hn hdb (he _) (hpl _ _)) ?_
    refine h.run X hX st H K w r xc _ fun vs ds σ1 H1 K1 s1 w1 r1 ⟨d, h1, q⟩ => ?_
    exact h1.run X hX H1 K1 w1 vs r1 _ fun z H2 K2 s2 w2 r2 => fo z d σ1 H2 K2 (s1.trans s2) w2 r2 q⟩
theorem te_callTy {f : Str} {T : String} (hg : GlS c f) (hm : c.mg f = none) (hv : bootBuiltins f = some (.type T)) (h : TA c (a :: es) ρ σ (fun ds σ1 => ∃ d, POF c (.type T) ds σ1 d ∧ Q d σ1) E) (hn : f ≠ "__name__" := by decide) (hdb : (f == ("__debug__" : Str)) = false := by decide)
    (he : ∀ env, starEach (a :: es) env = (false, eval a env) :: starEach es env := by intro _; rfl) (hpl : ∀ pos env, (backTo pos (starEach es env)).any (·.1) = false := by intro _ _; rfl) : TE c (.Call (.Name f p) (a :: es) [] pos) ρ σ Q E := ⟨fun X hX st H K w r xc Q' fo => by
  have hX' := hX
  cases hX' with
  | mk _ k' Wx fl hpp hrH hcf hh hp' ht hf hN hU hst =>
    refine cE_of (pe_callTy cF_cr hg hm hv cA_pa hn hdb (he _) (hpl _ _)) ?_
    refine h.run X hX st H K w r xc _ fun vs ds σ1 H1 K1 s1 w1 r1 ⟨d, h1, q⟩ => ?_
    exact h1.run X hX H1 K1 w1 vs r1 _ fun z H2 K2 s2 w2 r2 => fo z d σ1 H2 K2 (s1.trans s2) w2 r2 q⟩
theorem tv_callB {f : Str} {id : String} (hg : GlS c f) (hm : c.mg f = none) (hv : bootBuiltins f = some (.builtin id)) (ha : TVA c (a :: es) ρ σ ds) (ho : POF c (.builtin id) ds σ d) (hn : f ≠ "__name__" := by decide) (hdb : (f == ("__debug__" : Str)) = false := by decide)
    (he : ∀ env, starEach (a :: es) env = (false, eval a env) :: starEach es env := by intro _; rfl) (hpl : ∀ pos env, (backTo pos (starEach es env)).any (·.1) = false := by intro _ _; rfl) : TV c (.Call (.Name f p) (a :: es) [] pos) ρ σ d := ⟨fun q => te_callB hg hm hv (ha.to ⟨d, ho, q⟩) hn hdb he hpl⟩
theorem tv_callTy {f : Str} {T : String} (hg : GlS c f) (hm : c.mg f = none) (hv : bootBuiltins f = some (.type T)) (ha : TVA c (a :: es) ρ σ ds) (ho : POF c (.type T) ds σ d) (hn : f ≠ "__name__" := by decide) (hdb : (f == ("__debug__" : Str)) = false := by decide)
    (he : ∀ env, starEach (a :: es) env = (false, eval a env) :: starEach es env := by intro _; rfl) (hpl : ∀ pos env, (backTo pos (starEach es env)).any (·.1) = false := by intro _ _; rfl) : TV c (.Call (.Name f p) (a :: es) [] pos) ρ σ d := ⟨fun q => te_callTy hg hm hv (ha.to ⟨d, ho, q⟩) hn hdb he hpl⟩
/-- a def whose promise is a value of the arguments -/
theorem tv_own {f : Str} {ps : List Str} {k : Nat} {spec : TSpec} (dt : DtQ c.hp c.P c.w c.K c.mg c.base f ps k spec) (hk : k ≤ c.k) (hg : GlS c f) (ha : TVA c (a :: es) ρ σ ds) (hs : ∀ {Q : DT → Sg → Prop} {E : TX}, Q d σ → spec ds σ Q E) (hdb : (f == ("__debug__" : Str)) = false := by decide)
    (he : ∀ env, starEach (a :: es) env = (false, eval a env) :: starEach es env := by intro _; rfl) (hpl : ∀ pos env, (backTo pos (starEach es env)).any (·.1) = false := by intro _ _; rfl) : TV c (.Call (.Name f p) (a :: es) [] pos) ρ σ d := ⟨fun {Q E} q => te_own dt hk hg (ha.to (hs q)) hdb he hpl⟩
/-! methods of built-in types -/
/-- d is of the built-in type T -/
def TyIs (c : Ct) (T : String) (σ : Sg) (d : DT) : Prop := ∀ X, Con c X → ∀ H K, Wd c.K H σ K → ∀ x, Rep c.K H x d → ∀ pins st s v, Inv X pins st K s → RelV x v → s.TypeIs v T ∧ ∀ a, v = .ref a → ∃ ob, s.heap.get? a = some ob ∧ ob.dict = none
theorem te_meth {name : Str} {T id : String} (pa : PlainAttrs T) (slot : Slot T name id) (hty : typeOf (.builtin id) = pure (.type "method_descriptor"))
    (h : TE c o ρ σ (fun x σ1 => TyIs c T σ1 x ∧ TA c (a :: es) ρ σ1 (fun xs σ2 => TOM c id x xs σ2 Q) E) E)
    (hbase : ∀ env, attributeBase o name env (eval o env) = eval o env := by intro _; rfl)
    (hfew : ∀ env, ((backTo pos (starEach (a :: es) env)).all (fun x => !x.1) && (backToKw pos (keywordEach [] env)).all (fun x => x.1.isSome)
      && decide ((a :: es).length + ([] : List Keyword).length + (if ([] : List Keyword).isEmpty then 0 else 1) < 30)) = true := by intro _; rfl)
    (hline : (apos.endLine == pos.line) = true := by rfl) (he : ∀ env, starEach (a :: es) env = (false, eval a env) :: starEach es env := by intro _; rfl) (hpl : ∀ pos env, (backTo pos (starEach es env)).any (·.1) = false := by intro _ _; rfl) :
    TE c (.Call (.Attribute o name apos) (a :: es) [] pos) ρ σ Q E := ⟨fun X hX st H K w r xc Q' fo => fun pins s I => by
  have hX' := hX
  cases hX' with
  | mk _ k' Wx fl hpp hrH hcf hh hp' ht hf hN hU hst =>
    refine wpAny_Call_method_late (hbase _) (hfew _) hline rfl (thn (h.run X hX st H K w r xc (fun v K1 => ∃ x σ1 H1, Gw H σ K H1 σ1 K1 ∧ Wd X.K H1 σ1 K1 ∧ Rep X.K H1 v x ∧ TyIs ⟨X.prog, X.w, X.K, X.mg, X.base, X.N, X.env.scope, k', Wx, fl, hpp⟩ T σ1 x ∧ TA ⟨X.prog, X.w, X.K, X.mg, X.base, X.N, X.env.scope, k', Wx, fl, hpp⟩ (a :: es) ρ σ1 (fun xs σ2 => TOM ⟨X.prog, X.w, X.K, X.mg, X.base, X.N, X.env.scope, k', Wx, fl, hpp⟩ id x xs σ2 Q) E)
      (fun v x σ1 H1 K1 s1 w1 r1 ⟨q1, q2⟩ => ⟨x, σ1, H1, s1, w1, r1, q1, q2⟩) pins s I) fun u s1 ⟨v, K1, I1, rv, x, σ1, H1, sa, w1, r1, q1, q2⟩ => ?_)
    obtain ⟨h1, h2⟩ := q1 X hX H1 K1 w1 v r1 pins st s1 u I1 rv
    refine ⟨T, id, pa, slot, hty, h1, h2, ?_⟩
    have hA := q2.run X hX st H1 K1 w1 (r.same sa.b) (xc.next sa) (fun vs K2 => ∃ xs σ2 H2, Gw H1 σ1 K1 H2 σ2 K2 ∧ Wd X.K H2 σ2 K2 ∧ RepA X.K H2 vs xs ∧ TOM ⟨X.prog, X.w, X.K, X.mg, X.base, X.N, X.env.scope, k', Wx, fl, hpp⟩ id x xs σ2 Q) (fun vs xs σ2 H2 K2 s2 w2 r2 q => ⟨xs, σ2, H2, s2, w2, r2, q⟩) pos pins s1 I1
    rw [he] at hA ⊢
    refine Calls.callWith_builtin (by show (false || (backTo pos (starEach es X.env)).any (·.1)) = false; rw [hpl] <;> rfl) (Calls.evalArgs_plain ?_)
    refine thn hA fun us s2 ⟨vs, K2, I2, rvs, xs, σ2, H2, sb, w2, r2, q⟩ => ?_
    exact q.run X hX H2 K2 w2 v vs (r1.same sb.b) r2 Q' (fun z dz σ3 H3 K3 s3 => fo z dz σ3 H3 K3 (sa.trans (sb.trans s3))) pins s2 st u us I2 rv rvs⟩
/-- a method that changes nothing -/
structure POM (c : Ct) (id : String) (x : DT) (xs : List DT) (σ : Sg) (d : DT) : Prop where
  to : ∀ {Q : DT → Sg → Prop}, Q d σ → TOM c id x xs σ Q
theorem tv_meth {name : Str} {T id : String} (pa : PlainAttrs T) (slot : Slot T name id) (hty : typeOf (.builtin id) = pure (.type "method_descriptor")) (ho : TV c o ρ σ x) (ty : TyIs c T σ x) (ha : TVA c (a :: es) ρ σ ds) (hm : POM c id x ds σ d)
    (hbase : ∀ env, attributeBase o name env (eval o env) = eval o env := by intro _; rfl)
    (hfew : ∀ env, ((backTo pos (starEach (a :: es) env)).all (fun x => !x.1) && (backToKw pos (keywordEach [] env)).all (fun x => x.1.isSome)
      && decide ((a :: es).length + ([] : List Keyword).length + (if ([] : List Keyword).isEmpty then 0 else 1) < 30)) = true := by intro _; rfl)
    (hline : (apos.endLine == pos.line) = true := by rfl) (he : ∀ env, starEach (a :: es) env = (false, eval a env) :: starEach es env := by intro _; rfl) (hpl : ∀ pos env, (backTo pos (starEach es env)).any (·.1) = false := by intro _ _; rfl) :
    TV c (.Call (.Attribute o name apos) (a :: es) [] pos) ρ σ d := ⟨fun q => te_meth pa slot hty (ho.to ⟨ty, ha.to (hm.to q)⟩) hbase hfew hline he hpl⟩
end

/-! ### what is walked -/
/-- what is walked while an exception is handled -/
def cPH (X : Cx) (tg iter : Expr) : L2.TI := fun st K R => ∃ wi, L2H.PIH X tg iter wi ∧ wi st K R
theorem cPH_pi {X : Cx} {tg iter : Expr} : L2H.PIH X tg iter (cPH X tg iter) := ⟨fun pins s _ _ _ I ⟨_, h, q⟩ => h.run pins s _ _ _ I q⟩
theorem cPH_of {X : Cx} {tg iter : Expr} {t : L2.TI} {st : L2.St} {K : Hp} {R : It → Hp → Prop} (h : L2H.PIH X tg iter t) (q : t st K R) : cPH X tg iter st K R := ⟨t, h, q⟩
def cPQ (hp : HP) (X : Cx) (tg iter : Expr) : L2.TI := match hp with
  | none => cP X tg iter
  | some _ => cPH X tg iter
theorem cPQ_of {hp : HP} {X : Cx} {tg iter : Expr} {t : L2.TI} {st : L2.St} {K : Hp} {R : It → Hp → Prop} (h0 : PI X tg iter t) (h1 : L2H.PIH X tg iter t) (q : t st K R) : cPQ hp X tg iter st K R := by
  cases hp with
  | none => exact cP_of h0 q
  | some p => exact cPH_of h1 q
/-- iter is walked, its items are ds -/
structure TI (c : Ct) (tg iter : Expr) (ρ : EnvT) (σ : Sg) (Q : List DT → Sg → Prop) (E : TX) : Prop where
  run : ∀ X, Con c X → ∀ st H K, Wd c.K H σ K → REnv c.K H ρ st → XC c H σ K st E → ∀ R : It → Hp → Prop,
    (∀ ds σ1 Jt G Yh H1 K1, Gw H σ K H1 σ1 K1 → Wd c.K H1 σ1 K1 → Q ds σ1 → Walk Jt ds.length G Yh → (∀ H' σ' K', Same H1 H' → Wd c.K H' σ' K' → G K') →
      (∀ i v H' σ' Ka Kb, i < ds.length → Same H1 H' → Wd c.K H' σ' Ka → Yh i Ka v Kb → ∃ H2 d, ds[i]? = some d ∧ Gw H' σ' Ka H2 σ' Kb ∧ Wd c.K H2 σ' Kb ∧ Rep c.K H2 v d ∧ ∀ a o, Ka a = some o → Kb a = some o) → R Jt K1) → cPQ c.hp X tg iter st K R
structure TVI (c : Ct) (tg iter : Expr) (ρ : EnvT) (σ : Sg) (ds : List DT) : Prop where
  to : ∀ {Q : List DT → Sg → Prop} {E : TX}, Q ds σ → TI c tg iter ρ σ Q E
section
variable {c : Ct} {ρ : EnvT} {σ : Sg} {QA : List DT → Sg → Prop} {E : TX} {tg e a b : Expr} {pos p : Pos} {ds : List DT}
theorem ti_lst (h : TE c e ρ σ (fun d σ1 => ∃ ds, d = .lst ds ∧ QA ds σ1) E) : TI c tg e ρ σ QA E := ⟨fun X hX st H K w r xc R q => by
  have hX' := hX
  cases hX' with
  | mk _ k' Wx fl hpp hrH hcf hh hp' ht hf hN hU hst =>
  have go : ∀ R', iList X.K (cE X e) st K R' → cPQ hpp X tg e st K R' := fun R' z => by
    cases hpp with
    | none => exact cP_of (pi_list cE_pe) z
    | some p => exact cPH_of (HotX.pi_listH cE_pe) z
  refine go _ ?_
  refine h.run X hX st H K w r xc _ fun v d σ1 H1 K1 s1 w1 r1 ⟨ds, e1, h1⟩ => ?_
  subst e1
  cases r1 with
  | lst hs ra =>
    rename_i a vs
    have hs := SqL.of (K := X.K) hs
    refine ⟨a, rfl, ⟨vs, same_sql w1.le hs⟩, q ds σ1 _ _ _ H1 K1 s1 w1 h1 (ra.length ▸ walk_list) (fun H' σ' K' s2 w2 => same_sql w2.le (same_sql s2 hs)) fun i v H' σ' Ka Kb hi s2 w2 y => ?_⟩
    obtain ⟨rfl, hv⟩ := y
    obtain ⟨d, e2, rd⟩ := ra.get' hv
    exact ⟨H', d, e2, Gw.refl, w2, rd.same s2, fun _ _ z => z⟩⟩
theorem ti_tup [Calm c] (h : TE c e ρ σ (fun d σ1 => ∃ ds, d = .tup ds ∧ QA ds σ1) E) : TI c tg e ρ σ QA E := ⟨fun X hX st H K w r xc R q => by
  have hX' := hX
  cases hX' with
  | mk _ k' Wx fl hpp hrH hcf hh hp' ht hf hN hU hst =>
  obtain rfl : hpp = none := ‹Calm _›.h
  refine cP_of (pi_tup cE_pe) ?_
  refine h.run X hX st H K w r xc _ fun v d σ1 H1 K1 s1 w1 r1 ⟨ds, e1, h1⟩ => ?_
  subst e1
  cases r1 with
  | tup hs ra =>
    rename_i a vs
    refine ⟨a, rfl, ⟨vs, same_sqt w1.le hs⟩, q ds σ1 _ _ _ H1 K1 s1 w1 h1 (ra.length ▸ walk_tup) (fun H' σ' K' s2 w2 => same_sqt w2.le (same_sqt s2 hs)) fun i v H' σ' Ka Kb hi s2 w2 y => ?_⟩
    obtain ⟨rfl, hv⟩ := y
    obtain ⟨d, e2, rd⟩ := ra.get' hv
    exact ⟨H', d, e2, Gw.refl, w2, rd.same s2, fun _ _ z => z⟩⟩
theorem ti_str [Calm c] (h : TE c e ρ σ (fun d σ1 => ∃ l, d = .str l ∧ QA (l.map fun k => .str [k]) σ1) E) : TI c tg e ρ σ QA E := ⟨fun X hX st H K w r xc R q => by
  have hX' := hX
  cases hX' with
  | mk _ k' Wx fl hpp hrH hcf hh hp' ht hf hN hU hst =>
  obtain rfl : hpp = none := ‹Calm _›.h
  refine cP_of (pi_str cE_pe) ?_
  refine h.run X hX st H K w r xc _ fun v d σ1 H1 K1 s1 w1 r1 ⟨l, e1, h1⟩ => ?_
  subst e1
  cases r1
  have hl : (S l).cps.size = (l.map fun k => DT.str [k]).length := by simp [S]
  refine ⟨S l, rfl, q _ σ1 _ _ _ H1 K1 s1 w1 h1 (hl ▸ walk_str) (fun _ _ _ _ _ => trivial) fun i v H' σ' Ka Kb hi s2 w2 y => ?_⟩
  obtain ⟨rfl, k, hk, rfl⟩ := y
  have hk' : l[i]? = some k := by simpa [S] using hk
  exact ⟨H', .str [k], by rw [List.getElem?_map, hk']; rfl, Gw.refl, w2, .str [k], fun _ _ z => z⟩⟩
theorem ti_range1 (hg : GlS c "range") (hm : c.mg "range" = none) (h : TE c a ρ σ (fun d σ1 => ∃ n : Int, d = .int n ∧ (-(2 ^ 62) ≤ n ∧ n < 2 ^ 62) ∧ QA ((List.range n.toNat).map fun i : Nat => DT.int (i : Int)) σ1) E)
    (hs : ∀ env, starEach [a] env = [(false, eval a env)] := by intro _; rfl) : TI c tg (.Call (.Name "range" p) [a] [] pos) ρ σ QA E := ⟨fun X hX st H K w r xc R q => by
  have hX' := hX
  cases hX' with
  | mk _ k' Wx fl hpp hrH hcf hh hp' ht hf hN hU hst =>
  refine cPQ_of (pi_range1 hg hm (pa_cons cE_pe pa_nil (hs _)) (hs _)) (L2H.pi_range1H hg hm (pa_cons cE_pe pa_nil (hs _)) (hs _)) ?_
  refine h.run X hX st H K w r xc _ fun v d σ1 H1 K1 s1 w1 r1 ⟨n, e1, hn, h1⟩ => ?_
  subst e1
  cases r1
  have hl : n.toNat = ((List.range n.toNat).map fun i : Nat => DT.int (i : Int)).length := by simp
  refine ⟨n, rfl, hn.1, hn.2, q _ σ1 _ (fun _ => True) (YFn fun i => .int (0 + i)) H1 K1 s1 w1 h1 (by rw [← hl]; exact walk_range) (fun _ _ _ _ _ => trivial) fun i v H' σ' Ka Kb hi s2 w2 y => ?_⟩
  obtain ⟨rfl, rfl⟩ := y
  rw [← hl] at hi
  exact ⟨H', .int (i : Int), by simp [hi], Gw.refl, w2, (by show Rep X.K H' (V.int (0 + (i : Int))) (DT.int (i : Int)); rw [Int.zero_add]; exact .int _), fun _ _ z => z⟩⟩
theorem RepK.get' {F : PySem.W.Frag} {H : Hp} : ∀ {v : List (Key × V)} {d : List (DK × DT)} {i : Nat} {k : Key} {u : V}, RepK F H v d → v[i]? = some (k, u) → ∃ k' x, d[i]? = some (k', x) ∧ k = keyD k' ∧ Rep F H u x
  | _, _, _, _, _, .nil, e => by simp at e
  | _, _, 0, _, _, .cons r _, e => by simp at e; obtain ⟨rfl, rfl⟩ := e; exact ⟨_, _, rfl, rfl, r⟩
  | _, _, i + 1, _, _, .cons _ t, e => by
    obtain ⟨k', x, h1, h2⟩ := RepK.get' t (by simpa using e)
    exact ⟨k', x, by simpa using h1, h2⟩
/-- a dict, key by key -/
theorem ti_keys (h : TE c e ρ σ (fun d σ1 => ∃ kvs, d = .dct kvs ∧ QA (kvs.map fun x => dk x.1) σ1) E) : TI c tg e ρ σ QA E := ⟨fun X hX st H K w r xc R q => by
  have hX' := hX
  cases hX' with
  | mk _ k' Wx fl hpp hrH hcf hh hp' ht hf hN hU hst =>
  have go : ∀ R', HotX.iKeysH (cE X e) st K R' → cPQ hpp X tg e st K R' := fun R' z => by
    cases hpp with
    | none => exact cP_of (pi_keys cE_pe) (fun pins s I => L2.thn (z pins s I) fun v s1 ⟨x, H1, I1, r, d, o, kvs, e1, e2, e3⟩ => ⟨x, H1, I1, r, d, o, e1, .inl ⟨kvs, e2, e3⟩⟩)
    | some p => exact cPH_of (HotX.pi_keysH cE_pe) z
  refine go _ ?_
  refine h.run X hX st H K w r xc _ fun v d σ1 H1 K1 s1 w1 r1 ⟨ds, e1, h1⟩ => ?_
  subst e1
  cases r1 with
  | dct hd ra =>
    rename_i a ob vs
    have hl : vs.length = (ds.map fun x => dk x.1).length := by simp [ra.length]
    refine ⟨a, ob, vs, rfl, w1.le _ _ hd, q _ σ1 _ _ _ H1 K1 s1 w1 h1 (hl ▸ walk_keys) (fun H' σ' K' s2 w2 => w2.le _ _ (s2 _ _ hd)) fun i v H' σ' Ka Kb hi s2 w2 y => ?_⟩
    obtain ⟨rfl, k, u, hv, rfl⟩ := y
    obtain ⟨k', x, e2, rfl, rd⟩ := RepK.get' ra hv
    exact ⟨H', dk k', by rw [List.getElem?_map, e2]; rfl, Gw.refl, w2, rep_dk k', fun _ _ z => z⟩⟩
theorem tvi_lst (h : TV c e ρ σ (.lst ds)) : TVI c tg e ρ σ ds := ⟨fun q => ti_lst (h.to ⟨ds, rfl, q⟩)⟩
theorem tvi_tup [Calm c] (h : TV c e ρ σ (.tup ds)) : TVI c tg e ρ σ ds := ⟨fun q => ti_tup (h.to ⟨ds, rfl, q⟩)⟩
theorem tvi_str [Calm c] {l : List Nat} (h : TV c e ρ σ (.str l)) : TVI c tg e ρ σ (l.map fun k => .str [k]) := ⟨fun q => ti_str (h.to ⟨l, rfl, q⟩)⟩
theorem tvi_keys {kvs : List (DK × DT)} (h : TV c e ρ σ (.dct kvs)) : TVI c tg e ρ σ (kvs.map fun x => dk x.1) := ⟨fun q => ti_keys (h.to ⟨kvs, rfl, q⟩)⟩
end
end Y

/-! Y3: targets, comprehensions. -/
namespace Y
open PySem PySem.Spec L2 SX Z
open PyProof.Rows (subscriptTail)
/-! ### targets: one name, several names -/
inductive TgS where | nm (j : Nat) | tp (js : List Nat)
def TgS.slots : TgS → List Nat
  | .nm j => [j]
  | .tp js => js
def TgOk (c : Ct) (tg : Expr) : TgS → Prop
  | .nm j => IsN c tg j
  | .tp js => ∃ es k pos, tg = .Tuple es k pos ∧ IsNs c es js
def gOf (F : PySem.W.Frag) : TgS → TG
  | .nm j => gName j
  | .tp js => gTup F js.length (gNs js)
theorem tg_pg {c : Ct} {tg : Expr} {t : TgS} (h : TgOk c tg t) {X : Cx} (hX : Con c X) : PG X tg (gOf c.K t) := by
  cases t with
  | nm j => exact isN_pg h hX
  | tp js =>
    obtain ⟨es, k, pos, rfl, h⟩ := h
    obtain ⟨q1, q2, q3⟩ := pgs_names hX h
    cases hX with
    | mk _ k' Wx fa hpp hrH hcf hh hp' ht hf hN hU hst => exact pg_tupQ (fun e => (hcf e).1) hh q1 q2 q3
def setT (ρ : EnvT) : List Nat → List DT → EnvT
  | j :: js, x :: xs => setT (ρ.set j (some x)) js xs
  | _, _ => ρ
def stT : TgS → DT → EnvT → Option EnvT
  | .nm j, d, ρ => some (ρ.set j (some d))
  | .tp js, .tup ds, ρ => if ds.length = js.length then some (setT ρ js ds) else none
  | _, _, _ => none
theorem REnv.setAll {F : PySem.W.Frag} {H : Hp} : ∀ {js : List Nat} {vs : List V} {ds : List DT} {ρ : EnvT} {st : L2.St}, REnv F H ρ st → RepA F H vs ds → REnv F H (setT ρ js ds) (Z.setAll st js vs)
  | [], _, _, _, _, r, _ => by unfold setT Z.setAll; exact r
  | _ :: _, _, _, _, _, r, .nil => by unfold setT Z.setAll; exact r
  | j :: js, _, _, _, _, r, .cons h t => REnv.setAll (js := js) (r.set h j) t
theorem g_of {F : PySem.W.Frag} {H K : Hp} {σ : Sg} {t : TgS} {v : V} {d : DT} {ρ ρ' : EnvT} {st : L2.St} {Q : L2.St → Hp → Prop} (w : Wd F H σ K) (rv : Rep F H v d) (r : REnv F H ρ st) (h : stT t d ρ = some ρ') (q : ∀ st', REnv F H ρ' st' → (∀ vs, (∀ j ∈ t.slots, j ∈ vs) → L2.wipe st' vs = L2.wipe st vs) → Q st' K) : gOf F t v st K Q := by
  have wset : ∀ (vs : List Nat) (st : L2.St) (j : Nat) (x : Option V), j ∈ vs → L2.wipe (st.set j x) vs = L2.wipe st vs := by
    intro vs
    induction vs with
    | nil => intro _ _ _ h; cases h
    | cons a r ih =>
      intro st j x hj
      show (L2.wipe (st.set j x) r).set a none = (L2.wipe st r).set a none
      by_cases hr : j ∈ r
      · rw [ih st j x hr]
      · have e : j = a := (List.mem_cons.mp hj).resolve_right hr
        subst e
        have : ∀ (r : List Nat), j ∉ r → L2.wipe (st.set j x) r = (L2.wipe st r).set j x := by
          intro r
          induction r with
          | nil => intro _; rfl
          | cons b r ih2 =>
            intro hb
            show (L2.wipe (st.set j x) r).set b none = ((L2.wipe st r).set b none).set j x
            rw [ih2 (fun z => hb (List.mem_cons_of_mem _ z)), List.set_comm _ _ (fun z : j = b => hb (z ▸ List.mem_cons_self))]
        rw [this r hr, List.set_set]
  cases t with
  | nm j =>
    cases h
    exact q _ (r.set rv j) fun vs hs => wset vs st j _ (hs j List.mem_cons_self)
  | tp js =>
    cases rv with
    | tup hs ra =>
      rename_i a vs ds
      have h : (if ds.length = js.length then some (setT ρ js ds) else none) = some ρ' := h
      by_cases hl : ds.length = js.length
      · rw [if_pos hl] at h
        cases h
        have hl2 : vs.length = js.length := ra.length.trans hl
        refine ⟨a, vs, rfl, same_sqt w.le hs, hl2, gNs_of js vs st hl2 (q _ (r.setAll ra) ?_)⟩
        intro ws hsub
        have : ∀ (js : List Nat) (vs : List V) (st : L2.St), (∀ j ∈ js, j ∈ ws) → L2.wipe (Z.setAll st js vs) ws = L2.wipe st ws := by
          intro js
          induction js with
          | nil => intro vs st _; unfold Z.setAll; rfl
          | cons j js ih =>
            intro vs st h
            cases vs with
            | nil => unfold Z.setAll; rfl
            | cons x xs =>
              show L2.wipe (Z.setAll (st.set j (some x)) js xs) ws = _
              rw [ih xs _ (fun k hk => h k (List.mem_cons_of_mem _ hk)), wset ws st j _ (h j List.mem_cons_self)]
        exact this js vs st hsub
      · rw [if_neg hl] at h
        cases h
    | _ => cases h
theorem wipe_wipe : ∀ (vs : List Nat) (st : L2.St), L2.wipe (L2.wipe st vs) vs = L2.wipe st vs := by
  have wset : ∀ (vs : List Nat) (st : L2.St) (j : Nat), j ∉ vs → L2.wipe (st.set j none) vs = (L2.wipe st vs).set j none := by
    intro vs
    induction vs with
    | nil => intro _ _ _; rfl
    | cons b r ih2 =>
      intro st j hb
      show (L2.wipe (st.set j none) r).set b none = ((L2.wipe st r).set b none).set j none
      rw [ih2 st j (fun z => hb (List.mem_cons_of_mem _ z)), List.set_comm _ _ (fun z : j = b => hb (z ▸ List.mem_cons_self))]
  have wset2 : ∀ (vs : List Nat) (st : L2.St) (j : Nat), j ∈ vs → L2.wipe (st.set j none) vs = L2.wipe st vs := by
    intro vs
    induction vs with
    | nil => intro _ _ h; cases h
    | cons a r ih =>
      intro st j hj
      show (L2.wipe (st.set j none) r).set a none = (L2.wipe st r).set a none
      by_cases hr : j ∈ r
      · rw [ih st j hr]
      · have e : j = a := (List.mem_cons.mp hj).resolve_right hr
        subst e
        rw [wset r st j hr, List.set_set]
  intro vs
  induction vs with
  | nil => intro st; rfl
  | cons a r ih =>
    intro st
    show (L2.wipe ((L2.wipe st r).set a none) r).set a none = (L2.wipe st r).set a none
    by_cases hr : a ∈ r
    · rw [wset2 r _ a hr, ih]
    · rw [wset r _ a hr, ih, List.set_set]

/-! ### dict entries -/
def putT (kvs : List (DK × DT)) (k : DK) (d : DT) : List (DK × DT) := if (kvs.any fun e => decide (e.1 = k)) = true then kvs.map (fun e => if e.1 = k then (e.1, d) else e) else kvs ++ [(k, d)]
theorem keyD_eq {a b : DK} : keyD a = keyD b ↔ a = b := ⟨keyD_inj, fun e => by rw [e]⟩
theorem RepK.put {F : PySem.W.Frag} {H : Hp} {vs : List (Key × V)} {ds : List (DK × DT)} (r : RepK F H vs ds) (k : DK) {v : V} {d : DT} (h : Rep F H v d) : RepK F H (putK vs (keyD k) v) (putT ds k d) := by
  have a1 : ∀ {vs : List (Key × V)} {ds : List (DK × DT)}, RepK F H vs ds → (vs.any fun e => decide (e.1 = keyD k)) = (ds.any fun e => decide (e.1 = k)) := by
    intro vs ds r
    induction ds generalizing vs with
    | nil => cases r; rfl
    | cons x xs ih =>
      cases r with
      | cons h t =>
        simp only [List.any_cons, ih t]
        congr 1
        exact decide_eq_decide.mpr keyD_eq
  have a2 : ∀ {vs : List (Key × V)} {ds : List (DK × DT)}, RepK F H vs ds → RepK F H (vs.map fun e => if e.1 = keyD k then (e.1, v) else e) (ds.map fun e => if e.1 = k then (e.1, d) else e) := by
    intro vs ds r
    induction ds generalizing vs with
    | nil => cases r; exact .nil
    | cons x xs ih =>
      cases r with
      | cons hx t =>
        rename_i k2 v2 vs2 d2
        show RepK F H ((if keyD k2 = keyD k then (keyD k2, v) else (keyD k2, v2)) :: _) ((if k2 = k then (k2, d) else (k2, d2)) :: _)
        by_cases e : k2 = k
        · rw [if_pos e, if_pos (congrArg keyD e)]
          exact .cons h (ih t)
        · rw [if_neg e, if_neg (fun z => e (keyD_inj z))]
          exact .cons hx (ih t)
  have a3 : ∀ {vs : List (Key × V)} {ds : List (DK × DT)}, RepK F H vs ds → RepK F H (vs ++ [(keyD k, v)]) (ds ++ [(k, d)]) := by
    intro vs ds r
    induction ds generalizing vs with
    | nil => cases r; exact .cons h .nil
    | cons x xs ih =>
      cases r with
      | cons hx t => exact .cons hx (ih t)
  unfold putK putT
  rw [a1 r]
  split
  · exact a2 r
  · exact a3 r
theorem putT_len (c : List (DK × DT)) (k : DK) (x : DT) : (putT c k x).length ≤ c.length + 1 := by
  unfold putT
  split
  · rw [List.length_map]; omega
  · rw [List.length_append, List.length_singleton]; omega
theorem Gw.touch {H H' K K' : Hp} {σ σ' : Sg} {D : Addr} {o : HO} (g : Gw H σ K H' σ' K') (h : K D = none) : Gw H σ K H' σ' (upd K' D o) := ⟨g.b, fun a u h1 h2 => by rw [upd_ne (ne_of_none h2 h)]; exact g.k a u h1 h2, g.n, g.f⟩
theorem Wd.touch {F : PySem.W.Frag} {H K : Hp} {σ : Sg} {D : Addr} {o u : HO} (w : Wd F H σ K) (hH : H D = none) (hs : σ D = none) (e : K D = some u) (hu : ∀ a, u ≠ .own a) : Wd F H σ (upd K D o) := by
  refine ⟨fun a v h => by rw [upd_ne (ne_of_none h hH)]; exact w.le a v h, w.off, fun q c h => (w.on q c h).stay (Same.refl H) fun a v h2 e2 => ?_⟩
  have ne : a ≠ D := fun z => by
    rcases h2 with h2 | h2
    · rw [← h2, z, hs] at h; cases h
    · subst h2
      rw [z, e] at e2
      exact hu _ (Option.some.inj e2)
  rw [upd_ne ne]
  exact e2
theorem Gw.add {H H' K K' : Hp} {σ σ' : Sg} {D : Addr} {c : Cell} (g : Gw H σ K H' σ' K') (h : K D = none) : Gw H σ K H' (su σ' D c) K' := ⟨g.b, g.k, fun a h1 h2 => by
  by_cases z : a = D
  · rw [z]; exact h
  · rw [su_ne z] at h2; exact g.n a h1 h2, g.f⟩
/-- an object of no one's stays, and stays no one's -/
theorem Gw.hid {H H2 K K2 : Hp} {σ σ2 : Sg} {D : Addr} {o : HO} (g : Gw H σ K H2 σ2 K2) (e : K D = some o) (no : ∀ a, o ≠ .own a) (n : σ D = none) (hn : H D = none) : K2 D = some o ∧ σ2 D = none ∧ H2 D = none := by
  refine ⟨g.k D _ n e, ?_, ?_⟩
  · cases q : σ2 D with
    | none => rfl
    | some c =>
      have := g.n D n (by rw [q]; exact Option.some_ne_none _)
      rw [e] at this
      cases this
  · cases q : H2 D with
    | none => rfl
    | some u =>
      rcases g.f D hn (by rw [q]; exact Option.some_ne_none _) n with z | ⟨p, z⟩
      · rw [e] at z; cases z
      · rw [e] at z; exact absurd (Option.some.inj z) (no p)
/-! ### comprehensions -/
/-- a turn: the test, the element -/
def LcT (c : Ct) (ifs : List Expr) (elt : Expr) (ρ : EnvT) (σ : Sg) (yes : DT → Sg → Prop) (no : Sg → Prop) : Prop :=
  match ifs with
  | [] => TE c elt ρ σ yes TX0
  | [a] => TT c a ρ σ (fun b σ1 => (b = true → TE c elt ρ σ1 yes TX0) ∧ (b = false → no σ1)) TX0
  | _ => False
def DcT (c : Ct) (ifs : List Expr) (kx vx : Expr) (ρ : EnvT) (σ : Sg) (yes : DK → DT → Sg → Prop) (no : Sg → Prop) : Prop :=
  match ifs with
  | [] => TE c kx ρ σ (fun y σ1 => ∃ k, y = dk k ∧ TE c vx ρ σ1 (yes k) TX0) TX0
  | [a] => TT c a ρ σ (fun b σ1 => (b = true → TE c kx ρ σ1 (fun y σ1 => ∃ k, y = dk k ∧ TE c vx ρ σ1 (yes k) TX0) TX0) ∧ (b = false → no σ1)) TX0
  | _ => False
section
variable {c : Ct} {ρ : EnvT} {σ : Sg} {Q : DT → Sg → Prop} {E : TX} {tg iter elt kx vx : Expr} {ifs : List Expr} {scope : Scope} {pos : Pos} {own : List (Str × Nat)} {t : TgS}
theorem xblk {H K : Hp} {σ : Sg} {st : L2.St} : XC (c.blk scope) H σ K st TX0 := fun _ _ _ _ _ _ _ _ _ z => z.elim
/-- the reading of a list comprehension: the new list is a cell -/
theorem lc_runT {X : Cx} (hX : Con c X) {st : L2.St} {H K : Hp} (w : Wd c.K H σ K) (r : REnv c.K H ρ st) (xc : XC c H σ K st E) {Q' : VK} (fo : Fo c (Rep c.K) H σ K Q Q') (hsub : ∀ j ∈ t.slots, j ∈ own.map (·.2))
    (hi : TI c tg iter ρ σ (fun ds σ1 => ds.length ≤ 1000000 ∧ ∃ I : Nat → List DT → Sg → Prop, I 0 [] σ1 ∧
      (∀ i d acc σ2, ds[i]? = some d → I i acc σ2 → ∃ ρ', stT t d (wipeT ρ (own.map (·.2))) = some ρ' ∧ LcT (c.blk scope) ifs elt ρ' σ2 (fun y σ3 => I (i + 1) (acc ++ [y]) σ3) (I (i + 1) acc)) ∧
      (∀ D acc σ2, σ2 D = none → acc.length ≤ ds.length → I ds.length acc σ2 → Q (.ref D) (su σ2 D (.lst acc)))) E) : tLc (cPQ c.hp X tg iter) (gOf c.K t) (bTQ X c.hp scope ifs) (bEQ X c.hp scope elt) (own.map (·.2)) st K Q' := by
  have hX' := hX
  have hline : 1000000 < sizeLine := by rw [sizeLine_eq]; decide
  cases hX' with
  | mk _ k' Wx fa hpp hrH hcf hh hp' ht hf hN hU hst =>
    refine hi.run X hX st H K w r xc _ fun ds σ1 Jt G Yh H1 K1 g1 w1 ⟨hn, I, h0, hs, hq⟩ wk hG hy => ?_
    intro D hD
    refine lc_it wk (fun i K' => ∃ H' σ' acc vs, Gw H1 σ1 K1 H' σ' K' ∧ Wd X.K H' σ' K' ∧ K' D = some (.lst vs) ∧ σ' D = none ∧ H' D = none ∧ RepA X.K H' vs acc ∧ acc.length ≤ i ∧ I i acc σ') ⟨H1, σ1, [], [], Gw.push hD, w1.push hD, upd_same, w1.free hD, none_of w1.le hD, .nil, Nat.le_refl _, h0⟩ ?_ ?_ ?_
    · rintro i K' hi' ⟨H', σ', acc, vs, g, w', e, _, _, _, _, _⟩
      exact hG H' σ' K' g.b w'
    · rintro i x Ka Kb hi' ⟨H', σ', acc, vs, g, w', e, nD, nH, ra, hl, hI⟩ yy
      obtain ⟨H2, d, hd, g2, w2, rd, _⟩ := hy i x H' σ' Ka Kb hi' g.b w' yy
      obtain ⟨ρ', hst, turn⟩ := hs i d acc σ' hd hI
      obtain ⟨e2, nD2, nH2⟩ := g2.hid e (fun _ z => nomatch z) nD nH
      have r2 : REnv X.K H2 (wipeT ρ (own.map (·.2))) (L2.wipe st (own.map (·.2))) := (r.same (g1.b.trans (g.b.trans g2.b))).wipe _
      refine g_of w2 rd r2 hst fun st' rst hw => ⟨(hw _ hsub).trans (wipe_wipe _ _), ?_⟩
      have fin : ∀ {H3 K3 : Hp} {σ3 : Sg} {v : V} {y : DT}, Gw H2 σ' Kb H3 σ3 K3 → Wd X.K H3 σ3 K3 → Rep X.K H3 v y → I (i + 1) (acc ++ [y]) σ3 → ∃ acc', K3 D = some (.lst acc') ∧ acc'.length < sizeLine ∧
          ∃ H' σ' acc vs, Gw H1 σ1 K1 H' σ' (upd K3 D (.lst (acc' ++ [v]))) ∧ Wd X.K H' σ' (upd K3 D (.lst (acc' ++ [v]))) ∧ (upd K3 D (.lst (acc' ++ [v]))) D = some (.lst vs) ∧ σ' D = none ∧ H' D = none ∧ RepA X.K H' vs acc ∧ acc.length ≤ i + 1 ∧ I (i + 1) acc σ' := fun {H3 K3 σ3 v y} g3 w3 rv hI3 => by
        obtain ⟨e3, nD3, nH3⟩ := g3.hid e2 (fun _ z => nomatch z) nD2 nH2
        exact ⟨vs, e3, by rw [ra.length]; omega, H3, σ3, acc ++ [y], vs ++ [v], (g.trans (g2.trans g3)).touch hD, w3.touch nH3 nD3 e3 (fun _ z => nomatch z), upd_same, nD3, nH3, (ra.same (g2.b.trans g3.b)).append (.cons rv .nil), by rw [List.length_append, List.length_singleton]; omega, hI3⟩
      match ifs, turn with
      | [], turn =>
        intro s0 H0 C cl fp
        refine cTs_of pts_nil ?_
        unfold tYes
        refine iteT ?_
        intro s0 H0 C cl fp
        exact TE.run turn _ (con_blk hrH hcf hh hN hU s0 H0 C cl fp) st' H2 _ w2 rst xblk _ fun v y σ3 H3 K3 g3 w3 rv hI3 => fin g3 w3 rv hI3
      | [a], turn =>
        intro s0 H0 C cl fp
        refine cTs_of (pts_one cT_pt) ?_
        refine Y.TT.run turn _ (con_blk hrH hcf hh hN hU s0 H0 C cl fp) st' H2 _ w2 rst xblk _ fun b b' σ3 H3 K3 g3 w3 rb ⟨h1, h2⟩ => ?_
        subst rb
        cases b with
        | true =>
          refine iteT ?_
          intro s0 H0 C cl fp
          exact (h1 rfl).run _ (con_blk hrH hcf hh hN hU s0 H0 C cl fp) st' H3 _ w3 (rst.same g3.b) xblk _ fun v y σ4 H4 K4 g4 w4 rv hI4 => fin (g3.trans g4) w4 rv hI4
        | false =>
          obtain ⟨e3, nD3, nH3⟩ := g3.hid e2 (fun _ z => nomatch z) nD2 nH2
          exact iteF ⟨H3, σ3, acc, vs, g.trans (g2.trans g3), w3, e3, nD3, nH3, ra.same (g2.b.trans g3.b), by omega, h2 rfl⟩
      | _ :: _ :: _, turn => exact turn.elim
    · rintro K' ⟨H', σ', acc, vs, g, w', e, nD, nH, ra, hl, hI⟩
      exact fo _ _ _ H' K' (g1.trans (g.add hD)) (w'.add (c := .lst acc) nH ⟨vs, e, ra⟩) (.ref D) (hq D acc σ' nD hl hI)
/-- .. of a dict comprehension -/
theorem dc_runT {X : Cx} (hX : Con c X) {st : L2.St} {H K : Hp} (w : Wd c.K H σ K) (r : REnv c.K H ρ st) (xc : XC c H σ K st E) {Q' : VK} (fo : Fo c (Rep c.K) H σ K Q Q') (hsub : ∀ j ∈ t.slots, j ∈ own.map (·.2))
    (hi : TI c tg iter ρ σ (fun ds σ1 => ds.length ≤ 1000000 ∧ ∃ I : Nat → List (DK × DT) → Sg → Prop, I 0 [] σ1 ∧
      (∀ i d acc σ2, ds[i]? = some d → I i acc σ2 → ∃ ρ', stT t d (wipeT ρ (own.map (·.2))) = some ρ' ∧ DcT (c.blk scope) ifs kx vx ρ' σ2 (fun k y σ3 => I (i + 1) (putT acc k y) σ3) (I (i + 1) acc)) ∧
      (∀ D acc σ2, σ2 D = none → acc.length ≤ ds.length → I ds.length acc σ2 → Q (.ref D) (su σ2 D (.dct acc)))) E) : tDc (cPQ c.hp X tg iter) (gOf c.K t) (bTQ X c.hp scope ifs) (bEQ X c.hp scope kx) (bEQ X c.hp scope vx) (own.map (·.2)) st K Q' := by
  have hX' := hX
  have hline : 1000000 < sizeLine := by rw [sizeLine_eq]; decide
  cases hX' with
  | mk _ k' Wx fa hpp hrH hcf hh hp' ht hf hN hU hst =>
    refine hi.run X hX st H K w r xc _ fun ds σ1 Jt G Yh H1 K1 g1 w1 ⟨hn, I, h0, hs, hq⟩ wk hG hy => ?_
    intro D hD
    refine dc_it wk (fun i K' => ∃ H' σ' acc vs, Gw H1 σ1 K1 H' σ' K' ∧ Wd X.K H' σ' K' ∧ K' D = some (.dK vs) ∧ σ' D = none ∧ H' D = none ∧ RepK X.K H' vs acc ∧ acc.length ≤ i ∧ I i acc σ') ⟨H1, σ1, [], [], Gw.push hD, w1.push hD, upd_same, w1.free hD, none_of w1.le hD, .nil, Nat.le_refl _, h0⟩ ?_ ?_ ?_
    · rintro i K' hi' ⟨H', σ', acc, vs, g, w', e, _, _, _, _, _⟩
      exact hG H' σ' K' g.b w'
    · rintro i x Ka Kb hi' ⟨H', σ', acc, vs, g, w', e, nD, nH, ra, hl, hI⟩ yy
      obtain ⟨H2, d, hd, g2, w2, rd, _⟩ := hy i x H' σ' Ka Kb hi' g.b w' yy
      obtain ⟨ρ', hst, turn⟩ := hs i d acc σ' hd hI
      obtain ⟨e2, nD2, nH2⟩ := g2.hid e (fun _ z => nomatch z) nD nH
      have r2 : REnv X.K H2 (wipeT ρ (own.map (·.2))) (L2.wipe st (own.map (·.2))) := (r.same (g1.b.trans (g.b.trans g2.b))).wipe _
      refine g_of w2 rd r2 hst fun st' rst hw => ⟨(hw _ hsub).trans (wipe_wipe _ _), ?_⟩
      have fin : ∀ {H3 K3 : Hp} {σ3 : Sg} {k : DK} {v : V} {y : DT}, Gw H2 σ' Kb H3 σ3 K3 → Wd X.K H3 σ3 K3 → Rep X.K H3 v y → I (i + 1) (putT acc k y) σ3 → ∃ kvs k1, kV (keyD k) = kV k1 ∧ K3 D = some (.dK kvs) ∧ kvs.length < sizeLine ∧
          ∃ H' σ' acc vs, Gw H1 σ1 K1 H' σ' (upd K3 D (.dK (putK kvs k1 v))) ∧ Wd X.K H' σ' (upd K3 D (.dK (putK kvs k1 v))) ∧ (upd K3 D (.dK (putK kvs k1 v))) D = some (.dK vs) ∧ σ' D = none ∧ H' D = none ∧ RepK X.K H' vs acc ∧ acc.length ≤ i + 1 ∧ I (i + 1) acc σ' := fun {H3 K3 σ3 k v y} g3 w3 rv hI3 => by
        obtain ⟨e3, nD3, nH3⟩ := g3.hid e2 (fun _ z => nomatch z) nD2 nH2
        exact ⟨vs, keyD k, rfl, e3, by rw [ra.length]; omega, H3, σ3, putT acc k y, putK vs (keyD k) v, (g.trans (g2.trans g3)).touch hD, w3.touch nH3 nD3 e3 (fun _ z => nomatch z), upd_same, nD3, nH3, (ra.same (g2.b.trans g3.b)).put k rv, by have := putT_len acc k y; omega, hI3⟩
      match ifs, turn with
      | [], turn =>
        intro s0 H0 C cl fp
        refine cTs_of pts_nil ?_
        unfold tYes
        refine iteT ?_
        intro s0 H0 C cl fp
        refine TE.run turn _ (con_blk hrH hcf hh hN hU s0 H0 C cl fp) st' H2 _ w2 rst xblk _ fun u y σ3 H3 K3 g3 w3 rv ⟨k, ek, hI3⟩ => ?_
        subst ek
        cases rv.key
        intro s0 H0 C cl fp
        exact TE.run hI3 _ (con_blk hrH hcf hh hN hU s0 H0 C cl fp) st' H3 _ w3 (rst.same g3.b) xblk _ fun v y σ4 H4 K4 g4 w4 rv hI4 => fin (g3.trans g4) w4 rv hI4
      | [a], turn =>
        intro s0 H0 C cl fp
        refine cTs_of (pts_one cT_pt) ?_
        refine Y.TT.run turn _ (con_blk hrH hcf hh hN hU s0 H0 C cl fp) st' H2 _ w2 rst xblk _ fun b b' σ3 H3 K3 g3 w3 rb ⟨h1, h2⟩ => ?_
        subst rb
        cases b with
        | true =>
          refine iteT ?_
          intro s0 H0 C cl fp
          refine (h1 rfl).run _ (con_blk hrH hcf hh hN hU s0 H0 C cl fp) st' H3 _ w3 (rst.same g3.b) xblk _ fun u y σ4 H4 K4 g4 w4 rv ⟨k, ek, hI4⟩ => ?_
          subst ek
          cases rv.key
          intro s0 H0 C cl fp
          exact TE.run hI4 _ (con_blk hrH hcf hh hN hU s0 H0 C cl fp) st' H4 _ w4 (rst.same (g3.trans g4).b) xblk _ fun v y σ5 H5 K5 g5 w5 rv hI5 => fin (g3.trans (g4.trans g5)) w5 rv hI5
        | false =>
          obtain ⟨e3, nD3, nH3⟩ := g3.hid e2 (fun _ z => nomatch z) nD2 nH2
          exact iteF ⟨H3, σ3, acc, vs, g.trans (g2.trans g3), w3, e3, nD3, nH3, ra.same (g2.b.trans g3.b), by omega, h2 rfl⟩
      | _ :: _ :: _, turn => exact turn.elim
    · rintro K' ⟨H', σ', acc, vs, g, w', e, nD, nH, ra, hl, hI⟩
      exact fo _ _ _ H' K' (g1.trans (g.add hD)) (w'.add (c := .dct acc) nH ⟨vs, e, ra⟩) (.ref D) (hq D acc σ' nD hl hI)
/-- what a list comprehension needs -/
abbrev LcNeed (c : Ct) (t : TgS) (own : List (Str × Nat)) (ifs : List Expr) (elt : Expr) (scope : Scope) (ρ : EnvT) (Q : DT → Sg → Prop) (ds : List DT) (σ1 : Sg) : Prop :=
  ds.length ≤ 1000000 ∧ ∃ I : Nat → List DT → Sg → Prop, I 0 [] σ1 ∧
      (∀ i d acc σ2, ds[i]? = some d → I i acc σ2 → ∃ ρ', stT t d (wipeT ρ (own.map (·.2))) = some ρ' ∧ LcT (c.blk scope) ifs elt ρ' σ2 (fun y σ3 => I (i + 1) (acc ++ [y]) σ3) (I (i + 1) acc)) ∧
      (∀ D acc σ2, σ2 D = none → acc.length ≤ ds.length → I ds.length acc σ2 → Q (.ref D) (su σ2 D (.lst acc)))
abbrev DcNeed (c : Ct) (t : TgS) (own : List (Str × Nat)) (ifs : List Expr) (kx vx : Expr) (scope : Scope) (ρ : EnvT) (Q : DT → Sg → Prop) (ds : List DT) (σ1 : Sg) : Prop :=
  ds.length ≤ 1000000 ∧ ∃ I : Nat → List (DK × DT) → Sg → Prop, I 0 [] σ1 ∧
      (∀ i d acc σ2, ds[i]? = some d → I i acc σ2 → ∃ ρ', stT t d (wipeT ρ (own.map (·.2))) = some ρ' ∧ DcT (c.blk scope) ifs kx vx ρ' σ2 (fun k y σ3 => I (i + 1) (putT acc k y) σ3) (I (i + 1) acc)) ∧
      (∀ D acc σ2, σ2 D = none → acc.length ≤ ds.length → I ds.length acc σ2 → Q (.ref D) (su σ2 D (.dct acc)))
theorem te_lcC (htg : TgOk (c.blk scope) tg t) (hb : blkC c.N c.sc scope own = true) (hsub : ∀ j ∈ t.slots, j ∈ own.map (·.2)) (hi : TI c tg iter ρ σ (LcNeed c t own ifs elt scope ρ Q) E)
    (hf : ∀ env x, foldedSetIterable iter env x = pure x := by intro _ _; rfl) : TE c (.ListComp elt [⟨tg, iter, ifs, 0⟩] scope pos) ρ σ Q E := ⟨fun X hX st H K w r xc Q' fo => by
  have hX' := hX
  cases hX' with
  | mk _ k' Wx fa hpp hrH hcf hh hp' ht hf' hN hU hst =>
    have ok := blkOk_by hb
    have go : ∀ tr : L2.TI, tr = cPQ hpp X tg iter → PE X (.ListComp elt [⟨tg, iter, ifs, 0⟩] scope pos) (tLc tr (gOf X.K t) (bTQ X hpp scope ifs) (bEQ X hpp scope elt) (own.map (·.2))) := by
      rintro tr rfl
      cases hpp with
      | none => exact pe_lc (hcf rfl).1 hN cP_pi ok (fun s0 H0 C cl fp => tg_pg htg (con_blk hrH hcf hh hN hU s0 H0 C cl fp)) bTQ_pts0 bEQ_pe0 (hf _)
      | some p => exact pe_lcHot (hh p rfl) hN cPH_pi ok (fun s0 H0 C cl fp => tg_pg htg (con_blk hrH hcf hh hN hU s0 H0 C cl fp)) bTQ_pts bEQ_pe (hf _)
    refine cE_of (go _ rfl) ?_
    exact lc_runT hX w r xc fo hsub hi⟩
theorem te_dcC (htg : TgOk (c.blk scope) tg t) (hb : blkC c.N c.sc scope own = true) (hsub : ∀ j ∈ t.slots, j ∈ own.map (·.2)) (hi : TI c tg iter ρ σ (DcNeed c t own ifs kx vx scope ρ Q) E)
    (hf : ∀ env x, foldedSetIterable iter env x = pure x := by intro _ _; rfl) : TE c (.DictComp kx vx [⟨tg, iter, ifs, 0⟩] scope pos) ρ σ Q E := ⟨fun X hX st H K w r xc Q' fo => by
  have hX' := hX
  cases hX' with
  | mk _ k' Wx fa hpp hrH hcf hh hp' ht hf' hN hU hst =>
    have go : ∀ tr : L2.TI, tr = cPQ hpp X tg iter → PE X (.DictComp kx vx [⟨tg, iter, ifs, 0⟩] scope pos) (tDc tr (gOf X.K t) (bTQ X hpp scope ifs) (bEQ X hpp scope kx) (bEQ X hpp scope vx) (own.map (·.2))) := by
      rintro tr rfl
      cases hpp with
      | none => exact pe_dc (hcf rfl).1 hN cP_pi (blkOk_by hb) (fun s0 H0 C cl fp => tg_pg htg (con_blk hrH hcf hh hN hU s0 H0 C cl fp)) bTQ_pts0 bEQ_pe0 bEQ_pe0 (hf _)
      | some p => exact pe_dcHot (hh p rfl) hN cPH_pi (blkOk_by hb) (fun s0 H0 C cl fp => tg_pg htg (con_blk hrH hcf hh hN hU s0 H0 C cl fp)) bTQ_pts bEQ_pe bEQ_pe (hf _)
    refine cE_of (go _ rfl) ?_
    exact dc_runT hX w r xc fo hsub hi⟩
end
end Y

/-! Y4: statements, defs. -/
namespace Y
open PySem PySem.Spec L2 SX Z
open PyProof.Rows (subscriptTail)
structure EndT where
  nx : EnvT → Sg → Prop
  rt : DT → Sg → Prop
  bk : EnvT → Sg → Prop := fun _ _ => False
  ct : EnvT → Sg → Prop := fun _ _ => False
  ex : Value → Option (List (Str × DT)) → EnvT → Sg → Prop := fun _ _ _ _ => False
/-- what may leave an expression at these slots -/
abbrev xD (D : EndT) (ρ : EnvT) : TX := fun cls x σ => D.ex cls x ρ σ
structure FoS (c : Ct) (H : Hp) (σ : Sg) (K : Hp) (D : EndT) (D' : Ends) : Prop where
  nx : ∀ ρ' σ' st' H' K', Gw H σ K H' σ' K' → Wd c.K H' σ' K' → REnv c.K H' ρ' st' → D.nx ρ' σ' → D'.nx st' K'
  rt : ∀ v d σ' H' K', Gw H σ K H' σ' K' → Wd c.K H' σ' K' → Rep c.K H' v d → D.rt d σ' → D'.rt v K'
  bk : ∀ ρ' σ' st' H' K', Gw H σ K H' σ' K' → Wd c.K H' σ' K' → REnv c.K H' ρ' st' → D.bk ρ' σ' → D'.bk st' K'
  ct : ∀ ρ' σ' st' H' K', Gw H σ K H' σ' K' → Wd c.K H' σ' K' → REnv c.K H' ρ' st' → D.ct ρ' σ' → D'.ct st' K'
  ex : ∀ cls dA x ρ' σ' st' H' K', Gw H σ K H' σ' K' → Wd c.K H' σ' K' → REnv c.K H' ρ' st' → XRep c.K H' dA x → D.ex cls x ρ' σ' → c.Wx cls dA st' K'
theorem FoS.next {c : Ct} {H H1 K K1 : Hp} {σ σ1 : Sg} {D : EndT} {D' : Ends} (f : FoS c H σ K D D') (g : Gw H σ K H1 σ1 K1) : FoS c H1 σ1 K1 D D' where
  nx := fun ρ' σ' st' H' K' g' => f.nx ρ' σ' st' H' K' (g.trans g')
  rt := fun v d σ' H' K' g' => f.rt v d σ' H' K' (g.trans g')
  bk := fun ρ' σ' st' H' K' g' => f.bk ρ' σ' st' H' K' (g.trans g')
  ct := fun ρ' σ' st' H' K' g' => f.ct ρ' σ' st' H' K' (g.trans g')
  ex := fun cls dA x ρ' σ' st' H' K' g' => f.ex cls dA x ρ' σ' st' H' K' (g.trans g')
theorem FoS.xc {c : Ct} {H K : Hp} {σ : Sg} {D : EndT} {D' : Ends} {ρ : EnvT} {st : L2.St} (f : FoS c H σ K D D') (r : REnv c.K H ρ st) : XC c H σ K st (xD D ρ) := fun cls dA x σ' H' K' g w xr e => f.ex cls dA x ρ σ' st H' K' g w (r.same g.b) xr e
structure TS (c : Ct) (s : Stmt) (ρ : EnvT) (σ : Sg) (D : EndT) : Prop where
  run : ∀ X, Con c X → ∀ st H K, Wd c.K H σ K → REnv c.K H ρ st → ∀ D', FoS c H σ K D D' → cS X s D' st K
structure TBk (c : Ct) (b : List Stmt) (ρ : EnvT) (σ : Sg) (D : EndT) : Prop where
  run : ∀ X, Con c X → ∀ st H K, Wd c.K H σ K → REnv c.K H ρ st → ∀ D', FoS c H σ K D D' → cB X b D' st K
section
variable {c : Ct} {ρ : EnvT} {σ : Sg} {D : EndT} {e a b tg iter elt kx vx o : Expr} {es : List Expr} {ifs : List Expr} {scope : Scope} {pos p1 apos : Pos} {own : List (Str × Nat)} {t : TgS} {s : Stmt} {r b1 b2 body : List Stmt} {x : Str} {d : DT}
theorem tk_nil (h : D.nx ρ σ) : TBk c [] ρ σ D := ⟨fun X hX st H K w re D' f => b_nil (f.nx ρ σ st H K Gw.refl w re h)⟩
theorem tk_cons (h : TS c s ρ σ { D with nx := fun ρ' σ' => TBk c r ρ' σ' D }) : TBk c (s :: r) ρ σ D := ⟨fun X hX st H K w re D' f => by
  refine b_cons (h.run X hX st H K w re _ ⟨fun ρ' σ' st' H' K' g w' re' q => ?_, f.rt, f.bk, f.ct, f.ex⟩)
  exact q.run X hX st' H' K' w' re' D' (f.next g)⟩
theorem TS.imp {D1 : EndT} (h : TS c s ρ σ D1) (nx : ∀ ρ σ, D1.nx ρ σ → D.nx ρ σ) (rt : ∀ ρ σ, D1.rt ρ σ → D.rt ρ σ) (bk : ∀ ρ σ, D1.bk ρ σ → D.bk ρ σ) (ct : ∀ ρ σ, D1.ct ρ σ → D.ct ρ σ) (ex : ∀ a b ρ σ, D1.ex a b ρ σ → D.ex a b ρ σ) : TS c s ρ σ D := ⟨fun X hX st H K w re D' f =>
  h.run X hX st H K w re D' ⟨fun ρ' σ' st' H' K' g w r q => f.nx _ _ _ _ _ g w r (nx _ _ q), fun v d σ' H' K' g w r q => f.rt _ _ _ _ _ g w r (rt _ _ q), fun ρ' σ' st' H' K' g w r q => f.bk _ _ _ _ _ g w r (bk _ _ q), fun ρ' σ' st' H' K' g w r q => f.ct _ _ _ _ _ g w r (ct _ _ q),
    fun cls dA x ρ' σ' st' H' K' g w r xr q => f.ex _ _ _ _ _ _ _ _ g w r xr (ex _ _ _ _ q)⟩⟩
theorem tk_drop (p : Addr) (h : TBk c r ρ (sd σ p) D) : TBk c r ρ σ D := ⟨fun X hX st H K w re D' f => h.run X hX st H K w.drop re D' (f.next Gw.refl.drop)⟩
/-- a cell held by a slot is known for good from now on -/
theorem tk_frz {i : Nat} {p : Addr} {k : Cell} (hi : ρ[i]? = some (some (.ref p))) (hs : σ p = some k) (h : TBk c r (ρ.set i (some k.tree)) (sd σ p) D) : TBk c r ρ σ D := ⟨fun X hX st H K w re D' f pins s I => by
  obtain ⟨H2, K2, I2, g, w2, r2⟩ := w.freeze hs I
  obtain ⟨v, e, rv⟩ := re.get i _ hi
  have hv : v = .ref p := by cases rv; rfl
  subst hv
  refine h.run X hX st H2 K2 w2 ⟨by rw [List.length_set]; exact re.len, fun j d e2 => ?_⟩ D' (f.next g) pins s I2
  rw [List.getElem?_set] at e2
  split at e2
  · next z =>
    subst z
    split at e2
    · cases e2
      exact ⟨_, e, r2⟩
    · cases e2
  · obtain ⟨v, q1, q2⟩ := re.get j d e2
    exact ⟨v, q1, q2.same g.b⟩⟩
/-- a name that is stored -/
theorem ts_set {i : Nat} (hi : StoreN c x i) (h : TE c e ρ σ (fun d σ1 => D.nx (ρ.set i (some d)) σ1) (xD D ρ)) (hs : ∀ env, swapsWith e (some (.Name x p1)) pos.line env = pure false := by intro _; rfl) : TS c (.Assign [.Name x p1] e pos) ρ σ D := ⟨fun X hX st H K w re D' f => by
  have hX' := hX
  cases hX' with
  | mk _ k' Wx fa hpp hrH hcf hh hp' ht hf hN hU hst =>
    obtain ⟨h1, h2, h3⟩ := hi
    refine cS_of (ps_set hN h1 h2 cE_pe (hs _) (h3.imp (fun z => hf z x) id)) ?_
    exact h.run X hX st H K w re (f.xc re) _ fun v d σ1 H1 K1 g1 w1 rv q => f.nx _ _ _ H1 K1 g1 w1 ((re.same g1.b).set rv i) q⟩
theorem tk_set {i : Nat} (hi : StoreN c x i) (h : TE c e ρ σ (fun d σ1 => TBk c r (ρ.set i (some d)) σ1 D) (xD D ρ)) (hs : ∀ env, swapsWith e (some (.Name x p1)) pos.line env = pure false := by intro _; rfl) : TBk c (.Assign [.Name x p1] e pos :: r) ρ σ D := tk_cons (ts_set hi h hs)
theorem tk_setV {i : Nat} (hi : StoreN c x i) (he : TV c e ρ σ d) (h : TBk c r (ρ.set i (some d)) σ D) (hs : ∀ env, swapsWith e (some (.Name x p1)) pos.line env = pure false := by intro _; rfl) : TBk c (.Assign [.Name x p1] e pos :: r) ρ σ D := tk_set hi (he.to h) hs
/-- x = [..] on one line, x plain -/
theorem ts_setLc {i : Nat} (hy : c.N[i]? = some x) (hyl : c.sc.names.lookup x = some .local) (hln : (p1.line == pos.line) = true) (hown : (scope.names.any fun (n, k) => n == x && (k == .local || k == .cell)) = false)
    (htg : TgOk (c.blk scope) tg t) (hb : blkC c.N c.sc scope own = true) (hsub : ∀ j ∈ t.slots, j ∈ own.map (·.2)) (hi : TI c tg iter ρ σ (LcNeed c t own ifs elt scope ρ (fun d σ1 => D.nx (ρ.set i (some d)) σ1)) (xD D ρ)) {p2 : Pos}
    (hf : ∀ env x, foldedSetIterable iter env x = pure x := by intro _ _; rfl) : TS c (.Assign [.Name x p1] (.ListComp elt [⟨tg, iter, ifs, 0⟩] scope pos) p2) ρ σ D := ⟨fun X hX st H K w re D' f => by
  have hX' := hX
  cases hX' with
  | mk _ k' Wx fa hpp hrH hcf hh hp' ht hf' hN hU hst =>
    intro pins s J0
    have ok := blkOk_by hb
    have go : ∀ tr : L2.TI, tr = cPQ hpp X tg iter → PS X (.Assign [.Name x p1] (.ListComp elt [⟨tg, iter, ifs, 0⟩] scope pos) p2) (tAsg (tLc tr (gOf X.K t) (bTQ X hpp scope ifs) (bEQ X hpp scope elt) (own.map (·.2))) (gName i)) := by
      rintro tr rfl
      cases hpp with
      | none => exact ps_setLc (hcf rfl).1 hN hy hyl (sw_true J0.ok.kind hyl hln hown) cP_pi ok (fun s0 H0 C cl fp => tg_pg htg (con_blk hrH hcf hh hN hU s0 H0 C cl fp)) bTQ_pts0 bEQ_pe0 (hf _)
      | some p => exact ps_setLcHot (hh p rfl) hN hy hyl (sw_true J0.ok.kind hyl hln hown) cPH_pi ok (fun s0 H0 C cl fp => tg_pg htg (con_blk hrH hcf hh hN hU s0 H0 C cl fp)) bTQ_pts bEQ_pe (hf _)
    refine cS_of (go _ rfl) ?_ pins s J0
    exact lc_runT hX w re (f.xc re) (fun v d σ1 H1 K1 g1 w1 rv q => f.nx _ _ _ H1 K1 g1 w1 ((re.same g1.b).set rv i) q) hsub hi⟩
/-- x = [..] where another comprehension reads x -/
theorem ts_setLcC {gs : List Comprehension} {p2 : Pos} {i : Nat} (hi : StoreN c x i) (hc2 : c.sc.names.lookup x = some .cell) (h : TE c (.ListComp elt gs scope p2) ρ σ (fun d σ1 => D.nx (ρ.set i (some d)) σ1) (xD D ρ)) : TS c (.Assign [.Name x p1] (.ListComp elt gs scope p2) pos) ρ σ D := ⟨fun X hX st H K w re D' f => by
  have hX' := hX
  cases hX' with
  | mk _ k' Wx fa hpp hrH hcf hh hp' ht hf hN hU hst =>
    obtain ⟨h1, h2, h3⟩ := hi
    refine cS_of (ps_set hN h1 h2 cE_pe (sw_lcCell hc2) (h3.imp (fun z => hf z x) id)) ?_
    exact h.run X hX st H K w re (f.xc re) _ fun v d σ1 H1 K1 g1 w1 rv q => f.nx _ _ _ H1 K1 g1 w1 ((re.same g1.b).set rv i) q⟩
theorem ts_ret (h : TE c e ρ σ D.rt (xD D ρ)) : TS c (.Return (some e) pos) ρ σ D := ⟨fun X hX st H K w re D' f => cS_of (ps_ret cE_pe) (h.run X hX st H K w re (f.xc re) _ f.rt)⟩
theorem ts_expr (h : TE c e ρ σ (fun _ σ1 => D.nx ρ σ1) (xD D ρ)) (hs : ∀ env, swapsWith e none pos.line env = pure false := by intro _; rfl) : TS c (.Expr e pos) ρ σ D := ⟨fun X hX st H K w re D' f =>
  cS_of (ps_expr cE_pe (hs _)) (h.run X hX st H K w re (f.xc re) _ fun v d σ1 H1 K1 g1 w1 rv q => f.nx _ _ _ H1 K1 g1 w1 (re.same g1.b) q)⟩
theorem ts_if (h : TT c e ρ σ (fun r σ1 => (r = true → TBk c b1 ρ σ1 D) ∧ (r = false → TBk c b2 ρ σ1 D)) (xD D ρ)) : TS c (.If e b1 b2 pos) ρ σ D := ⟨fun X hX st H K w re D' f => by
  refine cS_of (ps_if cT_pt cB_pss cB_pss) ?_
  refine h.run X hX st H K w re (f.xc re) _ fun v v' σ1 H1 K1 g1 w1 rv ⟨h1, h2⟩ => ?_
  subst rv
  cases v with
  | true => exact iteT ((h1 rfl).run X hX st H1 K1 w1 (re.same g1.b) D' (f.next g1))
  | false => exact iteF ((h2 rfl).run X hX st H1 K1 w1 (re.same g1.b) D' (f.next g1))⟩
theorem tk_if {v : Bool} (he : TB c e ρ σ v) (h1 : v = true → TBk c b1 ρ σ { D with nx := fun ρ' σ' => TBk c r ρ' σ' D }) (h2 : v = false → TBk c b2 ρ σ { D with nx := fun ρ' σ' => TBk c r ρ' σ' D }) : TBk c (.If e b1 b2 pos :: r) ρ σ D := tk_cons (ts_if (he.to ⟨h1, h2⟩))
theorem tk_ifT (he : TB c e ρ σ true) (h1 : TBk c b1 ρ σ { D with nx := fun ρ' σ' => TBk c r ρ' σ' D }) : TBk c (.If e b1 b2 pos :: r) ρ σ D := tk_if he (fun _ => h1) (fun z => nomatch z)
theorem tk_ifF (he : TB c e ρ σ false) (h2 : TBk c b2 ρ σ { D with nx := fun ρ' σ' => TBk c r ρ' σ' D }) : TBk c (.If e b1 b2 pos :: r) ρ σ D := tk_if he (fun z => nomatch z) (fun _ => h2)
/-- .. a test that ends the def, or goes on (no else) -/
theorem tk_ifG {v : Bool} (he : TB c e ρ σ v) (h1 : v = true → TBk c b1 ρ σ { D with nx := fun ρ' σ' => TBk c r ρ' σ' D }) (h2 : v = false → TBk c r ρ σ D) : TBk c (.If e b1 [] pos :: r) ρ σ D := tk_if he h1 (fun z => tk_nil (h2 z))
theorem tk_ret {v : DT} (he : TV c e ρ σ v) (h : D.rt v σ) : TBk c (.Return (some e) pos :: r) ρ σ D := tk_cons (ts_ret (he.to h))
/-- a, b = e1, e2, both plain -/
theorem ts_par {i j : Nat} {y : Str} {px py pt p2 : Pos} {kt k2 : Nat} (hi : c.N[i]? = some x) (hj : c.N[j]? = some y) (hij : i ≠ j) (hx : c.sc.names.lookup x = some .local) (hy : c.sc.names.lookup y = some .local)
    (h : TA c [a, b] ρ σ (fun ds σ1 => ∃ v w, ds = [v, w] ∧ D.nx ((ρ.set i (some v)).set j (some w)) σ1) (xD D ρ))
    (hw : ∀ env : Env, env.blockKind = .function → env.kindOf x = some .local → env.kindOf y = some .local → swappedStores [.Tuple [.Name x px, .Name y py] kt pt] (.Tuple [a, b] k2 p2) env = pure (some [x, y])) :
    TS c (.Assign [.Tuple [.Name x px, .Name y py] kt pt] (.Tuple [a, b] k2 p2) pos) ρ σ D := ⟨fun X hX st H K w re D' f => by
  have hX' := hX
  cases hX' with
  | mk _ k' Wx fa hpp hrH hcf hh hp' ht hf hN hU hst =>
    intro pins s I
    have hk : X.env.blockKind = .function := by
      have z : X.env.scope.kind = .function := I.ok.kind
      unfold Env.blockKind
      rw [z]
      rfl
    have go : ∀ D', tPar i j (cA X [a, b]) D' st K → cS X (.Assign [.Tuple [.Name x px, .Name y py] kt pt] (.Tuple [a, b] k2 p2) pos) D' st K := fun D' z => by
      cases hpp with
      | none => exact cS_of (L2.ps_par (hcf rfl).1 hN hi hj hij hx hy cA_pa (hw _ hk hx hy)) z
      | some p => exact cS_of (HotX.ps_parQ ⟨p, (hh p rfl).1, (hh p rfl).2⟩ hN hi hj hij hx hy cA_pa (hw _ hk hx hy)) z
    refine go _ ?_ pins s I
    refine h.run X hX st H K w re (f.xc re) _ fun vs ds σ1 H1 K1 g1 w1 ra ⟨v, w', e1, q⟩ => ?_
    subst e1
    cases ra with
    | cons h1 t =>
      cases t with
      | cons h2 t2 =>
        cases t2
        exact ⟨_, _, rfl, f.nx _ _ _ H1 K1 g1 w1 (((re.same g1.b).set h1 i).set h2 j) q⟩⟩
/-- .. one of them read by a comprehension -/
theorem ts_un2 [Calm c] {i j : Nat} {y : Str} {px py pt p2 : Pos} {kt k2 : Nat} (hi : IsN c (.Name x px) i) (hj : IsN c (.Name y py) j) (h : TE c (.Tuple [a, b] k2 p2) ρ σ (fun d σ1 => ∃ v w, d = .tup [v, w] ∧ D.nx ((ρ.set i (some v)).set j (some w)) σ1) (xD D ρ))
    (hn : c.sc.names.lookup x = some .cell ∨ c.sc.names.lookup y = some .cell) (hs : ([a, b].any fun | .Starred .. => true | _ => false) = false := by rfl)
    (hsw : ∀ env, swapsWithSole [.Tuple [.Name x px, .Name y py] kt pt] (.Tuple [a, b] k2 p2) pos.line env = pure false := by intro _; rfl) : TS c (.Assign [.Tuple [.Name x px, .Name y py] kt pt] (.Tuple [a, b] k2 p2) pos) ρ σ D := ⟨fun X hX st H K w re D' f => by
  have hX' := hX
  have gx := isN_pg hi hX
  have gy := isN_pg hj hX
  obtain ⟨_, _, e1, _, lx, _⟩ := hi
  obtain ⟨_, _, e2, _, ly, _⟩ := hj
  cases e1
  cases e2
  cases hX' with
  | mk _ k' Wx fa hpp hrH hcf hh hp ht hf hN hU hst =>
    obtain rfl : hpp = none := ‹Calm _›.h
    obtain ⟨hc, hr⟩ := hcf rfl
    intro pins s I
    have hk : X.env.blockKind = .function := by
      have z : X.env.scope.kind = .function := I.ok.kind
      unfold Env.blockKind
      rw [z]
      rfl
    refine cS_of (ps_asg cE_pe (pg_tup hc (pgs_cons gx (pgs_cons gy pgs_nil))) (hsw _) (sw_half hk lx ly hn hs)) ?_ pins s I
    refine h.run X hX st H K w re (f.xc re) _ fun v d σ1 H1 K1 g1 w1 rv ⟨u1, u2, h1, q⟩ => ?_
    subst h1
    cases rv with
    | tup hsq ra =>
      cases ra with
      | cons h1 t =>
        cases t with
        | cons h2 t2 =>
          cases t2
          exact ⟨_, _, rfl, same_sqt w1.le hsq, rfl, _, _, rfl, _, _, rfl, rfl, f.nx _ _ _ H1 K1 g1 w1 (((re.same g1.b).set h1 i).set h2 j) q⟩⟩
/-! ### loops -/
theorem ts_for (htg : TgOk c tg t) (hi : TI c tg iter ρ σ (fun ds σ1 => ∃ I : Nat → EnvT → Sg → Prop, I 0 ρ σ1 ∧
      (∀ i d ρ1 σ2, ds[i]? = some d → I i ρ1 σ2 → ∃ ρ2, stT t d ρ1 = some ρ2 ∧ TBk c body ρ2 σ2 { D with nx := I (i + 1), ct := I (i + 1), bk := D.nx }) ∧ (∀ ρ1 σ2, I ds.length ρ1 σ2 → D.nx ρ1 σ2)) (xD D ρ))
    (hf : ∀ env x, foldedSetIterable iter env x = pure x := by intro _ _; rfl) : TS c (.For tg iter body [] pos) ρ σ D := ⟨fun X hX st H K w re D' f => by
  have hX' := hX
  cases hX' with
  | mk _ k' Wx fa hpp hrH hcf hh hp' hth hf' hN hU hst =>
    have go : ∀ D', tFor (cPQ hpp X tg iter) (gOf X.K t) (cB X body) D' st K → cS X (.For tg iter body [] pos) D' st K := fun D' z => by
      cases hpp with
      | none => exact cS_of (ps_for hp' (hcf rfl).1 cP_pi (tg_pg htg hX) cB_pss (hf _)) z
      | some p => exact cS_of (L2H.ps_forH hp' ⟨p, (hh p rfl).1, (hh p rfl).2⟩ cPH_pi (tg_pg htg hX) cB_pss (hf _)) z
    refine go _ ?_
    refine hi.run X hX st H K w re (f.xc re) _ fun ds σ1 Jt G Yh H1 K1 g1 w1 ⟨I, h0, hs, hd⟩ wk hG hy => ?_
    refine for_it wk (fun i st' K' => ∃ H' σ' ρ', Gw H1 σ1 K1 H' σ' K' ∧ Wd X.K H' σ' K' ∧ REnv X.K H' ρ' st' ∧ I i ρ' σ') ⟨H1, σ1, ρ, Gw.refl, w1, re.same g1.b, h0⟩ ?_ ?_ ?_
    · rintro i st' K' _ ⟨H', σ', ρ', g, w', _, _⟩
      exact hG H' σ' K' g.b w'
    · rintro i v st' Ka Kb hlt ⟨H', σ', ρ', g, w', re', hI⟩ yy
      obtain ⟨H2, d, hdd, g2, w2, rd, _⟩ := hy i v H' σ' Ka Kb hlt g.b w' yy
      obtain ⟨ρ2, hst, hb⟩ := hs i d ρ' σ' hdd hI
      refine g_of w2 rd (re'.same g2.b) hst fun st2 re2 _ => ?_
      have gg := g1.trans (g.trans g2)
      refine hb.run X hX st2 H2 Kb w2 re2 _ ⟨fun ρ3 σ3 st3 H3 K3 g3 w3 re3 q => ⟨H3, σ3, ρ3, g.trans (g2.trans g3), w3, re3, q⟩, fun v d σ3 H3 K3 g3 => f.rt v d σ3 H3 K3 (gg.trans g3), fun ρ3 σ3 st3 H3 K3 g3 => f.nx ρ3 σ3 st3 H3 K3 (gg.trans g3), fun ρ3 σ3 st3 H3 K3 g3 w3 re3 q => ⟨H3, σ3, ρ3, g.trans (g2.trans g3), w3, re3, q⟩,
        fun cls dA x ρ3 σ3 st3 H3 K3 g3 => f.ex cls dA x ρ3 σ3 st3 H3 K3 (gg.trans g3)⟩
    · rintro st' K' ⟨H', σ', ρ', g, w', re', hI⟩
      exact f.nx _ _ _ H' K' (g1.trans g) w' re' (hd ρ' σ' hI)⟩
theorem ts_while (I : Nat → EnvT → Sg → Prop) {m0 : Nat} (h0 : I m0 ρ σ)
    (hs : ∀ m ρ1 σ1, I m ρ1 σ1 → TT c e ρ1 σ1 (fun v σ2 => (v = true → TBk c body ρ1 σ2 { D with nx := fun ρ3 σ3 => ∃ m', m' < m ∧ I m' ρ3 σ3, ct := fun ρ3 σ3 => ∃ m', m' < m ∧ I m' ρ3 σ3, bk := D.nx }) ∧ (v = false → D.nx ρ1 σ2)) (xD D ρ1)) : TS c (.While e body [] pos) ρ σ D := ⟨fun X hX st H K w re D' f => by
  have hX' := hX
  cases hX' with
  | mk _ k' Wx fa hpp hrH hcf hh hp' hth hf' hN hU hst =>
    refine cS_of (ps_while hp' cT_pt cB_pss) ?_
    refine ⟨fun m st' K' => ∃ H' σ' ρ', Gw H σ K H' σ' K' ∧ Wd X.K H' σ' K' ∧ REnv X.K H' ρ' st' ∧ I m ρ' σ', ⟨m0, H, σ, ρ, Gw.refl, w, re, h0⟩, ?_⟩
    rintro m st' K' ⟨H', σ', ρ', g, w', re', hI⟩
    refine (hs m ρ' σ' hI).run X hX st' H' K' w' re' (f.next g |>.xc re') _ fun v v' σ2 H2 K2 g2 w2 rv ⟨h1, h2⟩ => ?_
    subst rv
    have gg := g.trans g2
    cases v with
    | true =>
      refine iteT ⟨fun st2 K2 => ∃ m', m' < m ∧ ∃ H' σ' ρ', Gw H σ K H' σ' K2 ∧ Wd X.K H' σ' K2 ∧ REnv X.K H' ρ' st2 ∧ I m' ρ' σ', fun st2 K2 z => z, ?_⟩
      refine (h1 rfl).run X hX st' H2 K2 w2 (re'.same g2.b) _ ⟨fun ρ3 σ3 st3 H3 K3 g3 w3 re3 ⟨m', hm, q⟩ => ⟨m', hm, H3, σ3, ρ3, gg.trans g3, w3, re3, q⟩, fun v d σ3 H3 K3 g3 => f.rt v d σ3 H3 K3 (gg.trans g3), fun ρ3 σ3 st3 H3 K3 g3 => f.nx ρ3 σ3 st3 H3 K3 (gg.trans g3), fun ρ3 σ3 st3 H3 K3 g3 w3 re3 ⟨m', hm, q⟩ => ⟨m', hm, H3, σ3, ρ3, gg.trans g3, w3, re3, q⟩,
        fun cls dA x ρ3 σ3 st3 H3 K3 g3 => f.ex cls dA x ρ3 σ3 st3 H3 K3 (gg.trans g3)⟩
    | false => exact iteF (f.nx _ _ _ H2 K2 gg w2 (re'.same g2.b) (h2 rfl))⟩
end

/-! ### a def -/
/-- a def of the text as the top left it -/
def startT (N : List Str) (ds : List DT) : EnvT := ds.map some ++ List.replicate (N.length - ds.length) none
abbrev ctQ (hp : HP) (P : Program) (w : World) (F : PySem.W.Frag) (mg : Str → Option Value) (base : Heap) (N : List Str) (st : Stmt) (k : Nat) (Wx : WX) : Ct := ⟨P, w, F, mg, base, N, defScope st, k, Wx, true, hp⟩
abbrev ctD (P : Program) (w : World) (F : PySem.W.Frag) (mg : Str → Option Value) (base : Heap) (N : List Str) (st : Stmt) (k : Nat) (Wx : WX) : Ct := ⟨P, w, F, mg, base, N, defScope st, k, Wx, true, none⟩
theorem fnQ_ok {hp : HP} {P : Program} {w : World} {F : PySem.W.Frag} {mg : Str → Option Value} {base : Heap} {x qual : Str} {st : Stmt} {f : Addr} {fd : FuncData} {N ps : List Str} {k : Nat} {spec : TSpec} (Fn : Fun F x qual st f fd) (S : FnScope N ps (defScope st)) (len : ∀ ds σ Q E, spec ds σ Q E → ds.length = ps.length)
    (hb : ∀ (ds : List DT) (σ : Sg) (Q : DT → Sg → Prop) (E : TX) (Wx : WX), spec ds σ Q E → TBk (ctQ hp P w F mg base N st k Wx) (defBody st) (startT N ds) σ { nx := fun _ σ' => Q .non σ', rt := Q, ex := fun cls x _ σ' => E cls x σ' }) : FnC hp P w F mg base (k + 1) f fd ps (spT F spec) := by
  refine fnC_of Fn S (fun vs K Q E h => ?_) (fun cdv A outer s K vs Q E hr hA hot hG h => ?_)
  · obtain ⟨ds, H, σ, Qd, Ed, _, ra, h, _⟩ := h
    exact ra.length.trans (len _ _ _ _ h)
  · obtain ⟨ds, H, σ, Qd, Ed, wd, ra, h, q, x⟩ := h
    refine ⟨_, cB_pss, ?_⟩
    refine (hb ds σ Qd Ed (fun cls d _ H => E cls d H) h).run _ ?_ _ H K wd ?_ _ ⟨fun ρ' σ' st' H' K' g w' _ e => q _ _ σ' H' K' g w' .non e, fun v d σ' H' K' g w' rv e => q v d σ' H' K' g w' rv e, fun _ _ _ _ _ _ _ _ e => e.elim, fun _ _ _ _ _ _ _ _ e => e.elim, fun cls dA z ρ' σ' st' H' K' g w' _ xr e => x cls dA z σ' H' K' g w' xr e⟩
    · exact Con.mk (cxC hp P w F mg base N qual (defScope st) f cdv A outer s K E) k _ true hp hr (fun e => by subst e; exact ⟨rfl, room_of hr (hA rfl)⟩) (fun p e => by subst e; exact ⟨hot p rfl, List.mem_singleton.mpr rfl⟩) (passes_of rfl) (L2N.takes_of rfl rfl rfl rfl) (fun _ _ => rfl) S.nd hG (fun _ => ⟨rfl, rfl, rfl⟩)
    · unfold startT L2.start
      rw [ra.length]
      exact renv_start ra _
theorem fnT_ok {P : Program} {w : World} {F : PySem.W.Frag} {mg : Str → Option Value} {base : Heap} {x qual : Str} {st : Stmt} {f : Addr} {fd : FuncData} {N ps : List Str} {k : Nat} {spec : TSpec} (Fn : Fun F x qual st f fd) (S : FnScope N ps (defScope st)) (len : ∀ ds σ Q E, spec ds σ Q E → ds.length = ps.length)
    (hb : ∀ (ds : List DT) (σ : Sg) (Q : DT → Sg → Prop) (E : TX) (Wx : WX), spec ds σ Q E → TBk (ctD P w F mg base N st k Wx) (defBody st) (startT N ds) σ { nx := fun _ σ' => Q .non σ', rt := Q, ex := fun cls x _ σ' => E cls x σ' }) : FnG P w F mg base (k + 1) f fd ps (spT F spec) := fnQ_ok Fn S len hb
theorem dtQ_ok {hp : HP} {P : Program} {w : World} {F : PySem.W.Frag} {mg : Str → Option Value} {base : Heap} {x : Str} {st : Stmt} {N ps : List Str} {k : Nat} {spec : TSpec} (d : DfN F mg x ps st) (S : FnScope N ps (defScope st)) (len : ∀ ds σ Q E, spec ds σ Q E → ds.length = ps.length)
    (hb : ∀ (ds : List DT) (σ : Sg) (Q : DT → Sg → Prop) (E : TX) (Wx : WX), spec ds σ Q E → TBk (ctQ hp P w F mg base N st k Wx) (defBody st) (startT N ds) σ { nx := fun _ σ' => Q .non σ', rt := Q, ex := fun cls x _ σ' => E cls x σ' }) : DtQ hp P w F mg base x ps (k + 1) spec := by
  obtain ⟨f, fd, h1, h2, h3⟩ := d
  exact ⟨f, fd, h1, h2.kp, h3, fnQ_ok h2 S len hb⟩
theorem dt_ok {P : Program} {w : World} {F : PySem.W.Frag} {mg : Str → Option Value} {base : Heap} {x : Str} {st : Stmt} {N ps : List Str} {k : Nat} {spec : TSpec} (d : DfN F mg x ps st) (S : FnScope N ps (defScope st)) (len : ∀ ds σ Q E, spec ds σ Q E → ds.length = ps.length)
    (hb : ∀ (ds : List DT) (σ : Sg) (Q : DT → Sg → Prop) (E : TX) (Wx : WX), spec ds σ Q E → TBk (ctD P w F mg base N st k Wx) (defBody st) (startT N ds) σ { nx := fun _ σ' => Q .non σ', rt := Q, ex := fun cls x _ σ' => E cls x σ' }) : Dt P w F mg base x ps (k + 1) spec := dtQ_ok d S len hb
end Y

/-! Y5: operations by values. -/
namespace Y
open PySem PySem.Spec L2 SX Z
open PyProof.Rows (subscriptTail)
/-! ### what reads as a list, a tuple, a dict -/
def LsX (σ : Sg) (x : DT) (ds : List DT) : Prop := x = .lst ds ∨ ∃ p, x = .ref p ∧ σ p = some (.lst ds)
def LsT (σ : Sg) (x : DT) (ds : List DT) : Prop := LsX σ x ds ∨ x = .seq ds
def DiT (σ : Sg) (x : DT) (kvs : List (DK × DT)) : Prop := x = .dct kvs ∨ ∃ p, x = .ref p ∧ σ p = some (.dct kvs)
theorem lsX_l {σ : Sg} {ds : List DT} : LsX σ (.lst ds) ds := .inl rfl
theorem lsX_c {σ : Sg} {p : Addr} {ds : List DT} (h : σ p = some (.lst ds)) : LsX σ (.ref p) ds := .inr ⟨p, rfl, h⟩
theorem lsT_l {σ : Sg} {ds : List DT} : LsT σ (.lst ds) ds := .inl (.inl rfl)
theorem lsT_s {σ : Sg} {ds : List DT} : LsT σ (.seq ds) ds := .inr rfl
theorem lsT_c {σ : Sg} {p : Addr} {ds : List DT} (h : σ p = some (.lst ds)) : LsT σ (.ref p) ds := .inl (.inr ⟨p, rfl, h⟩)
theorem diT_l {σ : Sg} {ds : List (DK × DT)} : DiT σ (.dct ds) ds := .inl rfl
theorem diT_c {σ : Sg} {p : Addr} {ds : List (DK × DT)} (h : σ p = some (.dct ds)) : DiT σ (.ref p) ds := .inr ⟨p, rfl, h⟩
section
variable {F : PySem.W.Frag} {H K : Hp} {σ : Sg} {v : V} {x : DT} {ds : List DT}
theorem LsX.now (l : LsX σ x ds) (w : Wd F H σ K) (r : Rep F H v x) : ∃ a vs, v = .ref a ∧ K a = some (.lst vs) ∧ RepA F H vs ds := by
  rcases l with rfl | ⟨p, rfl, h⟩
  · cases r with
    | lst hs ra => exact ⟨_, _, rfl, w.le _ _ hs, ra⟩
  · cases r
    obtain ⟨vs, e, ra⟩ := w.on p _ h
    exact ⟨p, vs, rfl, e, ra⟩
theorem LsT.now (l : LsT σ x ds) (w : Wd F H σ K) (r : Rep F H v x) : ∃ a vs, v = .ref a ∧ SqL F K a vs ∧ RepA F H vs ds := by
  rcases l with l | rfl
  · obtain ⟨a, vs, e, h, ra⟩ := l.now w r
    exact ⟨a, vs, e, SqL.of h, ra⟩
  · cases r with
    | seq hs ra => exact ⟨_, _, rfl, same_sql w.le hs, ra⟩
theorem rep_tup (w : Wd F H σ K) (r : Rep F H v (.tup ds)) : ∃ a vs, v = .ref a ∧ SqT F K a vs ∧ RepA F H vs ds := by
  cases r with
  | tup hs ra => exact ⟨_, _, rfl, same_sqt w.le hs, ra⟩
theorem DiT.now {kvs : List (DK × DT)} (l : DiT σ x kvs) (w : Wd F H σ K) (r : Rep F H v x) : ∃ a vs, v = .ref a ∧ L2.Rd K a (.dK vs) ∧ RepK F H vs kvs := by
  rcases l with rfl | ⟨p, rfl, h⟩
  · cases r with
    | dct hs ra => exact ⟨_, _, rfl, .inr ⟨_, w.le _ _ hs⟩, ra⟩
  · cases r
    obtain ⟨vs, e, ra⟩ := w.on p _ h
    exact ⟨p, vs, rfl, .inl e, ra⟩
end
section
variable {c : Ct} {σ : Sg} {i j : Int} {a b l : List Nat} {x y d : DT} {xs ys ds : List DT} {p q : Addr} {P : DT → Sg → Prop}
/-! ### ints -/
theorem po_addI : PO2 c (binaryOp .Add) (.int i) (.int j) σ (.int (i + j)) := ⟨fun X hX H K w v u rv ru Q k => by cases rv; cases ru; exact cO_of op_add ⟨i, j, rfl, rfl, k _ H K Gw.refl w (.int _)⟩⟩
theorem po_subI : PO2 c (binaryOp .Sub) (.int i) (.int j) σ (.int (i - j)) := ⟨fun X hX H K w v u rv ru Q k => by cases rv; cases ru; exact cO_of op_sub ⟨i, j, rfl, rfl, k _ H K Gw.refl w (.int _)⟩⟩
theorem po_mulI (h : CMulW i j) : PO2 c (binaryOp .Mult) (.int i) (.int j) σ (.int (i * j)) := ⟨fun X hX H K w v u rv ru Q k => by cases rv; cases ru; exact cO_of op_mulW ⟨i, j, rfl, rfl, h, k _ H K Gw.refl w (.int _)⟩⟩
theorem po_modI (h : 0 < j) : PO2 c (binaryOp .Mod) (.int i) (.int j) σ (.int (i % j)) := ⟨fun X hX H K w v u rv ru Q k => by cases rv; cases ru; exact cO_of op_mod ⟨i, j, rfl, rfl, h, k _ H K Gw.refl w (.int _)⟩⟩
theorem po_divI (h : CDivW i j) : PO2 c (binaryOp .FloorDiv) (.int i) (.int j) σ (.int (i / j)) := ⟨fun X hX H K w v u rv ru Q k => by cases rv; cases ru; exact cO_of op_fdivW ⟨i, j, rfl, rfl, h, k _ H K Gw.refl w (.int _)⟩⟩
theorem po_powI (h : CPow i j) : PO2 c (binaryOp .Pow) (.int i) (.int j) σ (.int (i ^ j.toNat)) := ⟨fun X hX H K w v u rv ru Q k => by cases rv; cases ru; exact cO_of op_pow ⟨i, j, rfl, rfl, h, k _ H K Gw.refl w (.int _)⟩⟩
theorem po_ltI : PO2 c (compareOp .Lt) (.int i) (.int j) σ (.bl (decide (i < j))) := ⟨fun X hX H K w v u rv ru Q k => by cases rv; cases ru; exact cO_of op_lt ⟨i, j, rfl, rfl, k _ H K Gw.refl w (.bl _)⟩⟩
theorem po_leI : PO2 c (compareOp .LtE) (.int i) (.int j) σ (.bl (decide (i ≤ j))) := ⟨fun X hX H K w v u rv ru Q k => by cases rv; cases ru; exact cO_of op_le ⟨i, j, rfl, rfl, k _ H K Gw.refl w (.bl _)⟩⟩
theorem po_gtI : PO2 c (compareOp .Gt) (.int i) (.int j) σ (.bl (decide (j < i))) := ⟨fun X hX H K w v u rv ru Q k => by cases rv; cases ru; exact cO_of op_gt ⟨i, j, rfl, rfl, k _ H K Gw.refl w (.bl _)⟩⟩
theorem po_geI : PO2 c (compareOp .GtE) (.int i) (.int j) σ (.bl (decide (j ≤ i))) := ⟨fun X hX H K w v u rv ru Q k => by cases rv; cases ru; exact cO_of op_ge ⟨i, j, rfl, rfl, k _ H K Gw.refl w (.bl _)⟩⟩
theorem po_iaddI : PO2 c (inplaceOp .Add) (.int i) (.int j) σ (.int (i + j)) := ⟨fun X hX H K w v u rv ru Q k => by cases rv; cases ru; exact cO_of iop_add ⟨i, j, rfl, rfl, k _ H K Gw.refl w (.int _)⟩⟩
theorem po_isubI : PO2 c (inplaceOp .Sub) (.int i) (.int j) σ (.int (i - j)) := ⟨fun X hX H K w v u rv ru Q k => by cases rv; cases ru; exact cO_of iop_sub ⟨i, j, rfl, rfl, k _ H K Gw.refl w (.int _)⟩⟩
theorem po_negI : PO1 c (unaryOp .USub) (.int i) σ (.int (-i)) := ⟨fun X hX H K w v rv Q k => by cases rv; exact cU_of un_neg ⟨i, rfl, k _ H K Gw.refl w (.int _)⟩⟩
/-! ### ==, !=, is -/
theorem po_eqI : PO2 c (compareOp .Eq) (.int i) (.int j) σ (.bl (decide (i = j))) := ⟨fun X hX H K w v u rv ru Q k => by
  cases rv; cases ru
  exact cO_of op_eq ⟨rfl, k _ H K Gw.refl w (dec_I (i := i) (j := j) ▸ .bl _)⟩⟩
theorem po_neI : PO2 c (compareOp .NotEq) (.int i) (.int j) σ (.bl (!decide (i = j))) := ⟨fun X hX H K w v u rv ru Q k => by
  cases rv; cases ru
  exact cO_of op_ne ⟨rfl, k _ H K Gw.refl w (dec_I (i := i) (j := j) ▸ .bl _)⟩⟩
theorem po_eqS : PO2 c (compareOp .Eq) (.str a) (.str b) σ (.bl (decide (a = b))) := ⟨fun X hX H K w v u rv ru Q k => by
  cases rv; cases ru
  exact cO_of op_eq ⟨rfl, k _ H K Gw.refl w (dec_S (a := a) (b := b) ▸ .bl _)⟩⟩
theorem po_neS : PO2 c (compareOp .NotEq) (.str a) (.str b) σ (.bl (!decide (a = b))) := ⟨fun X hX H K w v u rv ru Q k => by
  cases rv; cases ru
  exact cO_of op_ne ⟨rfl, k _ H K Gw.refl w (dec_S (a := a) (b := b) ▸ .bl _)⟩⟩
def isNon : DT → Bool
  | .non => true
  | _ => false
theorem rep_non {F : PySem.W.Frag} {H : Hp} {v : V} {d : DT} (r : Rep F H v d) : decide (v = .non) = isNon d := by
  cases r <;> rfl
theorem po_isN : PO2 c (compareOp .Is) x .non σ (.bl (isNon x)) := ⟨fun X hX H K w v u rv ru Q k => by
  cases ru
  exact cO_of op_isN ⟨rfl, k _ H K Gw.refl w (rep_non rv ▸ .bl _)⟩⟩
theorem po_notN : PO2 c (compareOp .IsNot) x .non σ (.bl (!isNon x)) := ⟨fun X hX H K w v u rv ru Q k => by
  cases ru
  exact cO_of op_notN ⟨rfl, k _ H K Gw.refl w (rep_non rv ▸ .bl _)⟩⟩
theorem po_isB {a b : Bool} : PO2 c (compareOp .Is) (.bl a) (.bl b) σ (.bl (decide (a = b))) := ⟨fun X hX H K w v u rv ru Q k => by
  cases rv; cases ru
  exact cO_of op_isBl ⟨a, b, rfl, rfl, k _ H K Gw.refl w (.bl _)⟩⟩
theorem po_notB {a b : Bool} : PO2 c (compareOp .IsNot) (.bl a) (.bl b) σ (.bl (!decide (a = b))) := ⟨fun X hX H K w v u rv ru Q k => by
  cases rv; cases ru
  exact cO_of op_notBl ⟨a, b, rfl, rfl, k _ H K Gw.refl w (.bl _)⟩⟩
/-! ### texts -/
theorem po_addS (h : a.length + b.length ≤ 16777216) : PO2 c (binaryOp .Add) (.str a) (.str b) σ (.str (a ++ b)) := ⟨fun X hX H K w v u rv ru Q k => by
  cases rv; cases ru
  exact cO_of op_add_str ⟨S a, S b, rfl, rfl, by rw [S_len, S_len, sizeLine_eq]; exact h, by rw [S_cat]; exact k _ H K Gw.refl w (.str _)⟩⟩
theorem po_inS {z : Nat} : PO2 c (compareOp .In) (.str [z]) (.str b) σ (.bl (decide (z ∈ b))) := ⟨fun X hX H K w v u rv ru Q k => by
  cases rv; cases ru
  exact cO_of op_in_sign ⟨z, S b, rfl, rfl, k _ H K Gw.refl w (by rw [show decide (z ∈ (S b).cps.toList) = decide (z ∈ b) by simp [S]]; exact .bl _)⟩⟩
theorem po_ltS : PO2 c (compareOp .Lt) (.str a) (.str b) σ (.bl (decide (a < b))) := ⟨fun X hX H K w v u rv ru Q k => by
  cases rv; cases ru
  exact cO_of op_lt_str ⟨S a, S b, rfl, rfl, k _ H K Gw.refl w (by simp only [S]; exact .bl _)⟩⟩
theorem po_gtS : PO2 c (compareOp .Gt) (.str a) (.str b) σ (.bl (decide (b < a))) := ⟨fun X hX H K w v u rv ru Q k => by
  cases rv; cases ru
  exact cO_of op_gt_str ⟨S a, S b, rfl, rfl, k _ H K Gw.refl w (by simp only [S]; exact .bl _)⟩⟩
theorem po_mulS (h1 : -1000000 ≤ i) (h2 : i ≤ 1000000) (h : a.length * i.toNat ≤ 16777216) : PO2 c (binaryOp .Mult) (.str a) (.int i) σ (.str (List.replicate i.toNat a).flatten) := ⟨fun X hX H K w v u rv ru Q k => by
  cases rv; cases ru
  intro pins s st v u I rx ry
  obtain ⟨t, rfl⟩ := rx
  obtain ⟨t', rfl⟩ := ry
  refine SB.mul ⟨?_, fun h3 _ => ?_, fun h3 _ => ?_⟩ fun t2 k2 => ⟨.str _, K, I.tok k2, ⟨t2, rfl⟩, by rw [mul_S]; exact k _ H K Gw.refl w (.str _)⟩
  · rw [decide_eq_false (by omega), decide_eq_false (by omega)]
    rfl
  · rw [S_len]
    have e1 : (a.length : Int) * i ≤ 16777216 := by
      have : ((a.length * i.toNat : Nat) : Int) ≤ 16777216 := Int.ofNat_le.mpr h
      rw [Int.natCast_mul, Int.toNat_of_nonneg (by omega)] at this
      exact this
    have e2 : (a.length : Int) ≤ (2 ^ 63 - 1) / i := (Int.le_ediv_iff_mul_le (by omega)).mpr (by omega)
    omega
  · rw [S_len]
    show Builtin.Str.tooLong _ = false
    unfold Builtin.Str.tooLong
    exact decide_eq_false (by rw [sizeLine_eq]; omega)⟩
/-! ### lists -/
theorem po_cat (hx : LsX σ x xs) (hy : LsX σ y ys) (h : xs.length + ys.length ≤ 16777216) : PO2 c (binaryOp .Add) x y σ (.lst (xs ++ ys)) := ⟨fun X hX H K w v u rv ru Q k => by
  obtain ⟨a, vs, rfl, q1, r1⟩ := hx.now w rv
  obtain ⟨b, us, rfl, q2, r2⟩ := hy.now w ru
  refine cO_of op_cat ⟨a, b, vs, us, rfl, rfl, q1, q2, by rw [r1.length, r2.length, sizeLine_eq]; exact h, fun p hp => ?_⟩
  obtain ⟨g, w2⟩ := w.new (o := .lst (vs ++ us)) hp
  exact k _ _ _ g w2 (.lst upd_same ((r1.append r2).same g.b))⟩
theorem po_rep (hx : LsX σ x xs) (h1 : -1000000 ≤ i) (h2 : i ≤ 1000000) (h : xs.length * i.toNat ≤ 16777216) : PO2 c (binaryOp .Mult) x (.int i) σ (.lst (List.replicate i.toNat xs).flatten) := ⟨fun X hX H K w v u rv ru Q k => by
  obtain ⟨a, vs, rfl, q1, r1⟩ := hx.now w rv
  cases ru
  refine cO_of op_rep ⟨a, i, vs, rfl, rfl, q1, by omega, by omega, by rw [r1.length, sizeLine_eq]; exact h, fun p hp => ?_⟩
  obtain ⟨g, w2⟩ := w.new (o := .lst (List.replicate i.toNat vs).flatten) hp
  exact k _ _ _ g w2 (.lst upd_same ((r1.rep _).same g.b))⟩
/-! ### subscripts, slices -/
theorem rep_at {F : PySem.W.Frag} {H : Hp} {vs : List V} {ds : List DT} (r : RepA F H vs ds) {i : Int} {d : DT} (h : atI ds i = some d) : ∃ u, atI vs i = some u ∧ Rep F H u d := by
  unfold atI at h ⊢
  rw [r.length]
  cases e : ixN ds.length i with
  | none => rw [e] at h; cases h
  | some j =>
    rw [e] at h
    obtain ⟨u, h1, h2⟩ := r.get (i := j) h
    exact ⟨u, h1, h2⟩
theorem pi_lst (hx : LsT σ x xs) (h : atI xs i = some d) : POI c x (.int i) σ d := ⟨fun X hX H K w v u rv ru Q k => by
  have hX' := hX
  cases hX'
  obtain ⟨a, vs, rfl, q1, r1⟩ := hx.now w rv
  cases ru
  obtain ⟨z, h1, h2⟩ := rep_at r1 h
  exact cI_of ix_list ⟨a, vs, i, z, rfl, rfl, q1, h1, k _ H K Gw.refl w h2⟩⟩
theorem pi_tup (h : atI xs i = some d) : POI c (.tup xs) (.int i) σ d := ⟨fun X hX H K w v u rv ru Q k => by
  have hX' := hX
  cases hX'
  obtain ⟨a, vs, rfl, q1, r1⟩ := rep_tup w rv
  cases ru
  obtain ⟨z, h1, h2⟩ := rep_at r1 h
  exact cI_of ix_tup ⟨a, vs, i, z, rfl, rfl, q1, h1, k _ H K Gw.refl w h2⟩⟩
theorem pi_str {z : Nat} (hz : a.length ≤ 16777216) (h : atI a i = some z) : POI c (.str a) (.int i) σ (.str [z]) := ⟨fun X hX H K w v u rv ru Q k => by
  cases rv; cases ru
  exact cI_of ix_str ⟨S a, i, z, rfl, rfl, by rw [S_len, sizeLine_eq]; exact hz, by simpa [S] using h, k _ H K Gw.refl w (.str [z])⟩⟩
def cutT (xs : List DT) (lo hi : Option Int) : List DT := (xs.drop (HT.sIx xs.length 0 lo)).take (HT.sIx xs.length xs.length hi - HT.sIx xs.length 0 lo)
theorem rep_cut {F : PySem.W.Frag} {H : Hp} {vs : List V} {ds : List DT} (r : RepA F H vs ds) (lo hi : Option Int) : RepA F H (cutV vs lo hi) (cutT ds lo hi) := by
  unfold cutV cutT
  rw [r.length]
  exact (r.drop _).take _
theorem pl_lst {lo hi : Option Int} (hx : LsT σ x xs) : POL c x lo hi σ (.lst (cutT xs lo hi)) := ⟨fun X hX H K w v rv Q k => by
  have hX' := hX
  cases hX'
  obtain ⟨a, vs, rfl, q1, r1⟩ := hx.now w rv
  refine cL_of sl_list ⟨a, vs, rfl, q1, fun p hp => ?_⟩
  obtain ⟨g, w2⟩ := w.new (o := .lst (cutV vs lo hi)) hp
  exact k _ _ _ g w2 (.lst upd_same ((rep_cut r1 lo hi).same g.b))⟩
theorem pl_tup {lo hi : Option Int} (hw : ¬ (HT.sIx xs.length 0 lo = 0 ∧ HT.sIx xs.length xs.length hi = xs.length)) : POL c (.tup xs) lo hi σ (.tup (cutT xs lo hi)) := ⟨fun X hX H K w v rv Q k => by
  have hX' := hX
  cases hX'
  obtain ⟨a, vs, rfl, q1, r1⟩ := rep_tup w rv
  refine cL_of sl_tup ⟨a, vs, rfl, q1, by rw [r1.length]; exact hw, fun p hp => ?_⟩
  obtain ⟨g, w2⟩ := w.new (o := .tup (cutV vs lo hi)) hp
  exact k _ _ _ g w2 (.tup (SqT.of upd_same) ((rep_cut r1 lo hi).same g.b))⟩
theorem pl_str {lo hi : Option Int} (hz : a.length ≤ 16777216) : POL c (.str a) lo hi σ (.str (cutN a lo hi)) := ⟨fun X hX H K w v rv Q k => by
  cases rv
  exact cL_of sl_str ⟨S a, rfl, by rw [S_len, sizeLine_eq]; exact hz, by rw [cutS_S]; exact k _ H K Gw.refl w (.str _)⟩⟩
/-! ### built-in functions -/
theorem repA_one {F : PySem.W.Frag} {H : Hp} {vs : List V} {x : DT} (r : RepA F H vs [x]) : ∃ v, vs = [v] ∧ Rep F H v x := by
  cases r with
  | cons h t => cases t; exact ⟨_, rfl, h⟩
theorem repA_two {F : PySem.W.Frag} {H : Hp} {vs : List V} {x y : DT} (r : RepA F H vs [x, y]) : ∃ v u, vs = [v, u] ∧ Rep F H v x ∧ Rep F H u y := by
  cases r with
  | cons h t =>
    obtain ⟨u, rfl, h2⟩ := repA_one t
    exact ⟨_, u, rfl, h, h2⟩
theorem pf_lenS (hz : a.length ≤ 16777216) : POF c (.builtin "len") [.str a] σ (.int (a.length : Int)) := ⟨fun X hX H K w vs r Q k => by
  obtain ⟨v, rfl, rv⟩ := repA_one r
  cases rv
  exact cF_of call_len_str ⟨S a, rfl, by rw [S_len, sizeLine_eq]; exact hz, by rw [S_len]; exact k _ H K Gw.refl w (.int _)⟩⟩
theorem pf_lenL (hx : LsT σ x xs) : POF c (.builtin "len") [x] σ (.int (xs.length : Int)) := ⟨fun X hX H K w vs r Q k => by
  have hX' := hX
  cases hX'
  obtain ⟨v, rfl, rv⟩ := repA_one r
  obtain ⟨a, vs, rfl, q1, r1⟩ := hx.now w rv
  exact cF_of call_len_seq ⟨a, vs, rfl, .inl q1, k _ H K Gw.refl w (r1.length ▸ .int _)⟩⟩
theorem pf_lenT : POF c (.builtin "len") [.tup xs] σ (.int (xs.length : Int)) := ⟨fun X hX H K w vs r Q k => by
  have hX' := hX
  cases hX'
  obtain ⟨v, rfl, rv⟩ := repA_one r
  obtain ⟨a, vs, rfl, q1, r1⟩ := rep_tup w rv
  exact cF_of call_len_seq ⟨a, vs, rfl, .inr q1, k _ H K Gw.refl w (r1.length ▸ .int _)⟩⟩
theorem pf_min2 [Calm c] : POF c (.builtin "min") [.int i, .int j] σ (.int (min i j)) := ⟨fun X hX H K w vs r Q k => by
  obtain ⟨v, u, rfl, rv, ru⟩ := repA_two r
  cases rv; cases ru
  cases hX with
  | mk _ k' Wx fa hpp hrH hcf hh hp' htk hf' hN hU hst =>
    obtain rfl : hpp = none := ‹Calm _›.h
    obtain ⟨hc, hr⟩ := hcf rfl
    refine cF_of (call_min2 hc) ⟨i, j, rfl, k _ H K Gw.refl w ?_⟩
    by_cases hlt : j < i
    · rw [if_pos hlt, show min i j = j by omega]; exact .int _
    · rw [if_neg hlt, show min i j = i by omega]; exact .int _⟩
theorem pf_max2 [Calm c] : POF c (.builtin "max") [.int i, .int j] σ (.int (max i j)) := ⟨fun X hX H K w vs r Q k => by
  obtain ⟨v, u, rfl, rv, ru⟩ := repA_two r
  cases rv; cases ru
  cases hX with
  | mk _ k' Wx fa hpp hrH hcf hh hp' htk hf' hN hU hst =>
    obtain rfl : hpp = none := ‹Calm _›.h
    obtain ⟨hc, hr⟩ := hcf rfl
    refine cF_of (call_max2 hc) ⟨i, j, rfl, k _ H K Gw.refl w ?_⟩
    by_cases hlt : j > i
    · rw [if_pos hlt, show max i j = j by omega]; exact .int _
    · rw [if_neg hlt, show max i j = i by omega]; exact .int _⟩
theorem repA_map {F : PySem.W.Frag} {H : Hp} {α : Type} (f : α → V) (g : α → DT) (hf : ∀ a u, Rep F H u (g a) → u = f a) : ∀ {l : List α} {vs : List V}, RepA F H vs (l.map g) → vs = l.map f
  | [], _, .nil => rfl
  | a :: l, _, .cons h t => by rw [hf a _ h, repA_map f g hf t]; rfl
theorem repA_of {F : PySem.W.Frag} {H : Hp} {α : Type} (f : α → V) (g : α → DT) (hf : ∀ a, Rep F H (f a) (g a)) : ∀ l : List α, RepA F H (l.map f) (l.map g)
  | [] => .nil
  | a :: l => .cons (hf a) (repA_of f g hf l)
theorem repA_ints {F : PySem.W.Frag} {H : Hp} {ns : List Int} {vs : List V} (r : RepA F H vs (ns.map DT.int)) : vs = ns.map V.int := repA_map V.int DT.int (fun a u h => by cases h; rfl) r
theorem repA_bls {F : PySem.W.Frag} {H : Hp} {ns : List Bool} {vs : List V} (r : RepA F H vs (ns.map DT.bl)) : vs = ns.map V.bl := repA_map V.bl DT.bl (fun a u h => by cases h; rfl) r
theorem repA_strs {F : PySem.W.Frag} {H : Hp} {ns : List (List Nat)} {vs : List V} (r : RepA F H vs (ns.map DT.str)) : vs = ns.map fun z => V.str (S z) := repA_map _ DT.str (fun a u h => by cases h; rfl) r
theorem pf_all [Calm c] {bs : List Bool} (hx : LsT σ x (bs.map DT.bl)) : POF c (.builtin "all") [x] σ (.bl (bs.all id)) := ⟨fun X hX H K w vs r Q k => by
  have hX' := hX
  cases hX' with
  | mk _ k' Wx fa hpp hrH hcf hh hp' htk hf' hN hU hst =>
    obtain rfl : hpp = none := ‹Calm _›.h
    obtain ⟨hc, hr⟩ := hcf rfl
    obtain ⟨v, rfl, rv⟩ := repA_one r
    obtain ⟨a, vs, rfl, q1, r1⟩ := hx.now w rv
    rw [repA_bls r1] at q1
    exact cF_of (cr_all hc) ⟨a, bs, rfl, q1, k _ H K Gw.refl w (.bl _)⟩⟩
theorem pf_sum [Calm c] {ns : List Int} (hx : LsT σ x (ns.map DT.int)) : POF c (.builtin "sum") [x] σ (.int ns.sum) := ⟨fun X hX H K w vs r Q k => by
  have hX' := hX
  cases hX' with
  | mk _ k' Wx fa hpp hrH hcf hh hp' htk hf' hN hU hst =>
    obtain rfl : hpp = none := ‹Calm _›.h
    obtain ⟨hc, hr⟩ := hcf rfl
    obtain ⟨v, rfl, rv⟩ := repA_one r
    obtain ⟨a, vs, rfl, q1, r1⟩ := hx.now w rv
    rw [repA_ints r1] at q1
    exact cF_of (cr_sum hc) ⟨a, ns, rfl, q1, k _ H K Gw.refl w (.int _)⟩⟩
theorem pf_intB {b : Bool} : POF c (.type "int") [.bl b] σ (.int (if b then 1 else 0)) := ⟨fun X hX H K w vs r Q k => by
  obtain ⟨v, rfl, rv⟩ := repA_one r
  cases rv
  exact cF_of call_int1 (.inr ⟨b, rfl, k _ H K Gw.refl w (.int _)⟩)⟩
theorem pf_listL (hx : LsT σ x xs) : POF c (.type "list") [x] σ (.lst xs) := ⟨fun X hX H K w vs r Q k => by
  have hX' := hX
  cases hX'
  obtain ⟨v, rfl, rv⟩ := repA_one r
  obtain ⟨a, vs, rfl, q1, r1⟩ := hx.now w rv
  refine cF_of call_list_of ⟨a, vs, rfl, .inl q1, fun p hp => ?_⟩
  obtain ⟨g, w2⟩ := w.new (o := .lst vs) hp
  exact k _ _ _ g w2 (.lst upd_same (r1.same g.b))⟩
theorem pf_listT : POF c (.type "list") [.tup xs] σ (.lst xs) := ⟨fun X hX H K w vs r Q k => by
  have hX' := hX
  cases hX'
  obtain ⟨v, rfl, rv⟩ := repA_one r
  obtain ⟨a, vs, rfl, q1, r1⟩ := rep_tup w rv
  refine cF_of call_list_of ⟨a, vs, rfl, .inr q1, fun p hp => ?_⟩
  obtain ⟨g, w2⟩ := w.new (o := .lst vs) hp
  exact k _ _ _ g w2 (.lst upd_same (r1.same g.b))⟩
/-- what a value's class is -/
def tyT (σ : Sg) : DT → Option String
  | .non => some "NoneType"
  | .bl _ => some "bool"
  | .int _ => some "int"
  | .str _ => some "str"
  | .lst _ => some "list"
  | .tup _ => some "tuple"
  | .dct _ => some "dict"
  | .ref p => match σ p with | some (.lst _) => some "list" | some (.dct _) => some "dict" | _ => none
  | _ => none
theorem tyT_x {F : PySem.W.Frag} {H K : Hp} {v : V} {t : String} (w : Wd F H σ K) (r : Rep F H v x) (h : tyT σ x = some t) : TyX F K v (.type t) := by
  cases r with
  | non => cases h; exact .base .non
  | bl b => cases h; exact .base (.bl b)
  | int i => cases h; exact .base (.int i)
  | str s => cases h; exact .base (.str _)
  | lst e _ => cases h; exact .base (.lst (w.le _ _ e))
  | seq => cases h
  | tup e _ =>
    cases h
    rcases same_sqt w.le e with (z | ⟨o, z⟩) | ⟨o, xs, n, z, hc, _⟩
    · exact .base (.tup z)
    · exact .fTuple z
    · exact .kTuple z hc
  | dct e _ => cases h; exact .fDict (w.le _ _ e)
  | obj => cases h
  | ref p =>
    unfold tyT at h
    cases e : σ p with
    | none => simp [e] at h
    | some cc =>
      simp only [e] at h
      cases cc with
      | lst ds =>
        cases h
        obtain ⟨vs, e2, _⟩ := w.on p _ e
        exact .base (.lst e2)
      | dct ds =>
        cases h
        obtain ⟨vs, e2, _⟩ := w.on p _ e
        exact .base (.dK e2)
      | obj C fs => cases h
      | any q Φ => cases h
  | ty n => cases h
  | exc0 e => cases h
  | exc1 e e2 _ => cases h
  | hot0 => cases h
  | hot1 => cases h
  | dco _ _ _ => cases h
theorem pf_isi {t u : String} {r : Bool} (h : tyT σ x = some t) (e : kitB t u = some r) : POF c (.builtin "isinstance") [x, .ty u] σ (.bl r) := ⟨fun X hX H K w vs ra Q k => by
  have hX' := hX
  cases hX'
  obtain ⟨v, u2, rfl, rv, ru⟩ := repA_two ra
  cases ru
  exact cF_of call_isi ⟨v, .ty u, .type t, .type u, r, rfl, .ty u, tyT_x w rv h, kit_ty e, k _ H K Gw.refl w (.bl _)⟩⟩
/-! ### methods -/
theorem ty_str : TyIs c "str" σ (.str a) := fun X hX H K w x rx pins st s v I r => by
  cases rx
  obtain ⟨t, rfl⟩ := r
  exact ⟨typeIs_str s _ t, fun _ e => nomatch e⟩
theorem ty_dct {kvs : List (DK × DT)} (hx : DiT σ x kvs) : TyIs c "dict" σ x := fun X hX H K w v rx pins st s u I r => by
  obtain ⟨a, vs, rfl, q1, r1⟩ := hx.now w rx
  cases r
  have ok := q1.ok I.hok
  obtain ⟨_, _, _, _, o, _, _, e, ex, _⟩ := ok
  exact ⟨⟨o, e, ex.1⟩, fun a e2 => by cases e2; exact ⟨o, e, ex.2.1⟩⟩
theorem pm_join {parts : List (List Nat)} (hx : LsT σ x (parts.map DT.str)) (hz : (parts.map (·.length)).sum + parts.length * a.length ≤ 16777216) : POM c "str.join" (.str a) [x] σ (.str (TL.joinL a parts)) := ⟨fun {Q} q => ⟨fun X hX H K w v vs rv ra Q' fo => by
  have hX' := hX
  cases hX'
  cases rv
  obtain ⟨u, rfl, ru⟩ := repA_one ra
  obtain ⟨b, us, rfl, q1, r1⟩ := hx.now w ru
  rw [repA_strs r1] at q1
  have e1 : (parts.map fun z => V.str (S z)) = (parts.map S).map V.str := by rw [List.map_map]; rfl
  rw [e1] at q1
  refine cM_of mt_join ⟨S a, b, parts.map S, rfl, rfl, .inl q1, ?_, ?_⟩
  · rw [lens, List.length_map, S_len]
    exact hz
  · rw [join_S]
    exact fo _ _ σ H K Gw.refl w (.str _) q⟩⟩
theorem pm_strip (hz : a.length ≤ 16777216) : POM c "str.strip" (.str a) [.str b] σ (.str (Txt.stripChars (S a) (S b)).cps.toList) := ⟨fun {Q} q => ⟨fun X hX H K w v vs rv ra Q' fo => by
  cases rv
  obtain ⟨u, rfl, ru⟩ := repA_one ra
  cases ru
  refine cM_of mt_stripChars ⟨S a, S b, rfl, rfl, by rw [S_len, sizeLine_eq]; exact hz, fo _ _ σ H K Gw.refl w ?_ q⟩
  have := Rep.str (F := c.K) (H := H) (Txt.stripChars (S a) (S b)).cps.toList
  rwa [S_tl] at this⟩⟩
end
end Y

namespace Y
open PySem PySem.Spec PyProof.Rows L2 Z
/-- what the caller of the law is told at the end -/
abbrev LawEnd (s1 : Shared) : Result → Shared → Prop := fun r s2 => r = .ok (.ret (.bool true)) ∧ OldK s1.heap s2.heap ∧ s2.os = s1.os ∧ AllBare s2.gens
section
variable {P : Program} {w : World} {F : PySem.W.Frag} {mg mb : Str → Option Value} {k : Nat} {fa a : Addr} {fd : FuncData} {x : Str} {sp : Sp} {s1 : Shared} {vs : List Value} {ns : List Int} {H : Hp}
/-- the law's promise at a heap in which the script alone may be tracked -/
theorem law_in (smm : ∃ mm, s1.heap.Ns sysModules mm) (inn : F.In s1.heap) (hns : s1.heap.Ns mainGlobals mg) (hb : s1.heap.Ns builtinsNs mb) (hbb : ∀ x : Str, x ≠ "__name__" → mb x = bootBuiltins x) (lim : s1.heap.NoLimit) (bare : s1.gens = #[])
    (ha : s1.heap.get? a = some { cls := .type "list", data := .seq vs.toArray }) (hr : Room k callerA) (G : ∀ base : Heap, F.In base → base.Ns mainGlobals mg → (∃ ob, base.get? sysModules = some ob) → FnG P w F mg base k fa fd [x] sp)
    (hbind : ∀ (s : Shared) (u : Value), BindsTo s fd ⟨[u], []⟩ [(x, u)]) (hsp : sp [.ref a] H (fun v _ => v = .bl true) fun _ _ _ => False)
    (only : Only H) (hok : HOk P w H s1.heap) (one : ∀ b, H b ≠ none → b = a) (notF : H a ≠ none → F.lookup a = none) : codeAny (model P w) callerA (.call (.ref fa) ⟨[.ref a], []⟩) (LawEnd s1) s1 := by
  have away : ∀ {b : Addr} {o : Obj}, s1.heap.get? b = some o → o.data ≠ .seq vs.toArray → H b = none := fun {b o} e d => by
    cases q : H b with
    | none => rfl
    | some u =>
      obtain rfl := one b (by rw [q]; exact Option.some_ne_none _)
      rw [ha] at e
      cases e
      exact absurd rfl d
  have names : ∀ {b : Addr} {m : Str → Option Value}, s1.heap.Ns b m → (hidT s1.heap H).Ns b m := fun {b m} h => by
    obtain ⟨o, es, ep, e, d, r⟩ := h
    exact ⟨o, es, ep, hidT_get e (away e (by rw [d]; exact fun z => nomatch z)), d, r⟩
  have innB : F.In (hidT s1.heap H) := fun b o e => hidT_get (inn b o e) (by
    cases q : H b with
    | none => rfl
    | some u =>
      have ne : H b ≠ none := by rw [q]; exact Option.some_ne_none _
      obtain rfl := one b ne
      rw [notF ne] at e
      cases e)
  obtain ⟨mc, l1, l2⟩ := lim
  have e0 : Env0 P w F mg (hidT s1.heap H) callerA [] s1 H := ⟨rfl, ⟨innB, names hns, ⟨mb, names hb, hbb⟩, ⟨mc, names l1, l2⟩⟩, fun b o e => of_hidT e, Nat.le_of_eq (hidT_size _ _), trivial, fun b z => absurd z (List.not_mem_nil), hok, .of_eq bare⟩
  refine codeAny_mono ((G _ innB (names hns) (let ⟨_, q⟩ := smm; let ⟨o, _, _, e, _⟩ := names q; ⟨o, e⟩)).calm callerA hr rfl [] s1 H e0 ⟨[.ref a], []⟩ [.ref a] [.ref a] (.cons rfl .nil) (hbind s1 (.ref a)) _ _ hsp) fun r s2 z => ?_
  match r, z with
  | .error e, z =>
    obtain ⟨_, _, _, _, _, _, _, _, _, _, _, _, n⟩ := z
    exact n.elim
  | .ok .next, z => exact z.elim
  | .ok .brk, z => exact z.elim
  | .ok .cont, z => exact z.elim
  | .ok (.ret u), ⟨v, H2, e1, e2, un, ok2, r2, q2⟩ =>
    subst q2
    obtain rfl : u = Value.bool true := r2
    refine ⟨rfl, OldK.of_keep fun b o e => ?_, e1, e2⟩
    rcases only b with q | ⟨ob, xs, q⟩
    · exact un.keep b o e q (by intro z; exact absurd (show b ∈ ([] : List Addr) from z) List.not_mem_nil) (by simp)
    · have f1 := (hok b _ q).1
      rw [f1] at e
      cases e
      exact (ok2 b _ (un.frzs b _ _ q)).1
/-- the law's call -/
theorem law_run (smm : ∃ mm, s1.heap.Ns sysModules mm) (inn : F.In s1.heap) (hns : s1.heap.Ns mainGlobals mg) (hb : s1.heap.Ns builtinsNs mb) (hbb : ∀ x : Str, x ≠ "__name__" → mb x = bootBuiltins x) (lim : s1.heap.NoLimit) (bare : s1.gens = #[])
    (ha : s1.heap.get? a = some { cls := .type "list", data := .seq vs.toArray }) (hi : IntsAre vs ns) (hl : ns.length ≤ sizeLine) (hr : Room k callerA)
    (G : ∀ base : Heap, F.In base → base.Ns mainGlobals mg → (∃ ob, base.get? sysModules = some ob) → FnG P w F mg base k fa fd [x] sp) (hbind : ∀ (s : Shared) (u : Value), BindsTo s fd ⟨[u], []⟩ [(x, u)])
    (hsp : ∀ H : Hp, Only H → SqL F H a (ns.map V.int) → sp [.ref a] H (fun v _ => v = .bl true) fun _ _ _ => False) : codeAny (model P w) callerA (.call (.ref fa) ⟨[.ref a], []⟩) (LawEnd s1) s1 := by
  have rv := vals_ints hi
  cases hk : F.lookup a with
  | some o =>
    obtain rfl := Option.some.inj ((inn a o hk).symm.trans ha)
    have on : Only fun _ => none := fun _ => .inl rfl
    refine law_in (H := fun _ => none) smm inn hns hb hbb lim bare ha hr G hbind (hsp _ on (.inr ⟨_, vs.toArray, _, hk, rfl, rfl, rfl, ?_, by simpa using rv⟩)) on (fun _ _ z => nomatch z) (fun _ z => absurd rfl z) (fun z => absurd rfl z)
    rw [List.size_toArray, hi.length]
    exact hl
  | none =>
    let u : HO := .frz { cls := .type "list", data := .seq vs.toArray } (.lst (ns.map V.int))
    have at_a : (upd (fun _ => none) a u : Hp) a = some u := upd_same
    have off : ∀ b, b ≠ a → (upd (fun _ => none) a u : Hp) b = none := fun b z => upd_ne z
    have on : Only (upd (fun _ => none) a u) := fun b => by
      by_cases e : b = a
      · subst e
        exact .inr ⟨_, _, at_a⟩
      · exact .inl (off b e)
    refine law_in (H := upd (fun _ => none) a u) smm inn hns hb hbb lim bare ha hr G hbind (hsp _ on (.inl (.inr ⟨_, at_a⟩))) on (fun b q z => ?_) (fun b z => Decidable.byContradiction fun e => z (off b e)) (fun _ => hk)
    by_cases e : b = a
    · subst e
      rw [at_a] at z
      cases z
      exact ⟨ha, by rw [List.length_map]; exact hl, vs, _, rv, ha⟩
    · rw [off b e] at z
      cases z
end
/-- the goal that the head leaves, from the law's promise; the script's ints are of at most 1048576 bits -/
theorem walkG {l : PySem.W.OpenLaw} {n k : Nat} {q : Program} {loose : List Str} {XP : (Str → Option Value) → Heap → Prop} {YP : World → Heap → Prop} {d : DefRec} {K : Params → PySem.W.Frag} {sp : World → Sp} {x : Str}
    (hi : importsNone q = true) (hn : l.most = some n) (hn2 : n ≤ sizeLine) (hdf : d.params.defaults = []) (hr : Room k callerA) (hY : ∀ (w : World) (h : Heap), YP w h → (K w.params).In h)
    (G : ∀ (w : World) (mg : Str → Option Value) (fa : Addr) (h : Heap), (K w.params).In h → h.Ns mainGlobals mg → mg d.name = some (.ref fa) →
      ∃ fd : FuncData, (∀ (s : Shared) (u : Value), BindsTo s fd ⟨[u], []⟩ [(x, u)]) ∧ ∀ base : Heap, (K w.params).In base → base.Ns mainGlobals mg → (∃ ob, base.get? sysModules = some ob) → FnG l.prog w (K w.params) mg base k fa fd [x] (sp w))
    (hsp : ∀ (w : World) (H : Hp) (a : Addr) (ns : List Int), ns.length ≤ n → (∀ z ∈ ns, Builtin.Int.intBits z ≤ 1048576) → Only H → SqL (K w.params) H a (ns.map V.int) → sp w [.ref a] H (fun v _ => v = .bl true) fun _ _ _ => False) :
    PySem.W.WalkO q loose XP YP l.row.toRowW d [] (fun f vs => PySem.call f vs) := by
  refine Att.attach_callB hn hdf fun w s0 s1 mg mb fa o pm cd doc a vs ns B Y ho hd hcd hmg hobj hints hlen hbits hg => ?_
  obtain ⟨fd, b, g⟩ := G w mg fa _ (hY w _ Y) B.T.g hmg
  exact law_run (let ⟨mm, q, _⟩ := (B.T.seer hi).mods; ⟨mm, q⟩) (hY w _ Y) B.T.g B.T.b B.T.builtins B.T.nolimit hg hobj hints (Nat.le_trans hlen hn2) hr g b fun H on s => hsp w H a ns hlen hbits on s
end Y

/-! Y6: trees as data (repr, ==), comprehensions by values, stores into cells, the law's head. -/
namespace Y
open PySem PySem.Spec L2 SX Z
open PyProof.Rows (subscriptTail)
/-! ### trees as data -/
def keyPy : DK → PyData
  | .inl i => .int i
  | .inr s => .str (S s)
def okPy : OKey → PyData
  | .txt s => .str (S s)
  | .non => .none
  | .bl b => .bool b
  | .one s => .tuple [.str (S s)]
mutual
def toPy : DT → PyData
  | .non => .none
  | .bl b => .bool b
  | .int i => .int i
  | .str s => .str (S s)
  | .lst xs => .list (toPyA xs)
  | .tup xs => .tuple (toPyA xs)
  | .dct kvs => .dict (toPyK kvs)
  | .seq _ => .none
  | .obj _ _ => .none
  | .ref _ => .none
  | .ty _ => .none
  | .exc _ _ => .none
  | .hot _ _ _ => .none
  | .dco kvs => .dict (kvs.map fun p => (okPy p.1, .int p.2))
def toPyA : List DT → List PyData
  | [] => []
  | x :: xs => toPy x :: toPyA xs
def toPyK : List (DK × DT) → List (PyData × PyData)
  | [] => []
  | (k, d) :: r => (keyPy k, toPy d) :: toPyK r
end
mutual
def plain : DT → Bool
  | .lst xs => plainA xs
  | .tup xs => plainA xs
  | .dct kvs => plainK kvs
  | .seq _ => false
  | .obj _ _ => false
  | .ref _ => false
  | .ty _ => false
  | .exc _ _ => false
  | .hot _ _ _ => false
  | _ => true
def plainA : List DT → Bool
  | [] => true
  | x :: xs => plain x && plainA xs
def plainK : List (DK × DT) → Bool
  | [] => true
  | (_, d) :: r => plain d && plainK r
end
section
variable {X : Cx} {pins : List (Addr × Obj)} {st : L2.St} {H K : Hp} {σ : Sg} {s : Shared}
theorem not_sm {a : Addr} {o : HO} (I : Inv X pins st K s) (sm : ∃ ob, X.base.get? sysModules = some ob) (e : K a = some o) : a ≠ sysModules := fun z => by
  obtain ⟨ob, h⟩ := sm
  have := (I.bs _ _ h).2
  rw [← z, e] at this
  cases this
theorem keyReads {h : Heap} {k : DK} {v : Value} (p : keyIs (keyD k) v = true) : Reads h v (keyPy k) [] := by
  cases k with
  | inl i =>
    obtain ⟨t, z⟩ := Value.isInt_shape (k := i) p
    rw [z]
    exact .int i t
  | inr x =>
    obtain ⟨t, z⟩ := Value.isStrOf_shape (x := S x) p
    rw [z]
    exact .str _ t
theorem okReads (w : Wd X.K H σ K) (I : Inv X pins st K s) {v : V} {k : OKey} {u : Value} (h : OKv X.K H v k) (r : RelV v u) : Reads s.heap u (okPy k) [] := by
  cases k with
  | txt x =>
    obtain rfl := (show v = .str (S x) from h)
    obtain ⟨t, rfl⟩ := (show ∃ t, u = Value.str (S x) t from r)
    exact .str _ t
  | non =>
    obtain rfl := (show v = .non from h)
    obtain rfl := (show u = Value.none from r)
    exact .none
  | bl b =>
    obtain rfl := (show v = .bl b from h)
    obtain rfl := (show u = Value.bool b from r)
    exact .bool b
  | one x =>
    obtain ⟨b, rfl, q⟩ := h
    obtain rfl := (show u = Value.ref b from r)
    obtain ⟨its, rv, ⟨o, ho, hc, n, hd⟩, _⟩ := I.tuple (same_sqt w.le q)
    obtain ⟨z, rfl, rz⟩ := L2.vals1 rv
    obtain ⟨t, rfl⟩ := (show ∃ t, z = Value.str (S x) t from rz)
    exact .tuple ho hc hd (.cons (.str _ t) .nil)
theorem odReads (w : Wd X.K H σ K) (I : Inv X pins st K s) : ∀ {rows : List (V × V)} {kvs : List (OKey × Int)} {es : List DictEntry}, Paired (OKr X.K H) rows kvs → Paired (fun (r : V × V) (e : DictEntry) => RelV r.1 e.key ∧ RelV r.2 e.val) rows es →
    ReadsAll s.heap (es.map (·.key)) ((kvs.map fun p => (okPy p.1, PyData.int p.2)).map (·.1)) [] ∧ ReadsAll s.heap (es.map (·.val)) ((kvs.map fun p => (okPy p.1, PyData.int p.2)).map (·.2)) []
  | _, _, _, .nil, q => by cases q; exact ⟨.nil, .nil⟩
  | _, _, _, .cons h t, q => by
    cases q with
    | cons h2 t2 =>
      obtain ⟨i1, i2⟩ := odReads w I t t2
      have k1 := okReads w I h.1 h2.1
      have e2 := h2.2
      rw [h.2] at e2
      obtain ⟨tk, e3⟩ := (show ∃ t, _ = Value.int _ t from e2)
      exact ⟨ReadsAll.cons k1 i1, ReadsAll.cons (by dsimp only; rw [e3]; exact .int _ tk : Reads s.heap _ _ []) i2⟩
mutual
theorem Rep.reads (w : Wd X.K H σ K) (I : Inv X pins st K s) (sm : ∃ ob, X.base.get? sysModules = some ob) : ∀ (d : DT) (v : V) (u : Value), Rep X.K H v d → plain d = true → RelV v u → ∃ as, Reads s.heap u (toPy d) as ∧ sysModules ∉ as
  | .non, _, _, h, _, r => by cases h; cases r; exact ⟨_, .none, by simp⟩
  | .bl b, _, _, h, _, r => by cases h; cases r; exact ⟨_, .bool b, by simp⟩
  | .int i, _, _, h, _, r => by cases h; obtain ⟨t, rfl⟩ := r; exact ⟨_, .int i t, by simp⟩
  | .str x, _, _, h, _, r => by cases h; obtain ⟨t, rfl⟩ := r; exact ⟨_, .str _ t, by simp⟩
  | .lst ds, _, _, h, p, r => by
    cases h with
    | lst hs ra =>
      cases r
      have e := w.le _ _ hs
      obtain ⟨_, its, n, rv, ho⟩ := I.hok _ _ e
      obtain ⟨as, hr, hn⟩ := Rep.readsA w I sm ds _ its ra p rv
      exact ⟨_, .list ho rfl rfl hr, fun z => by
        rcases List.mem_cons.mp z with z | z
        · exact not_sm I sm e z.symm
        · exact hn z⟩
  | .tup ds, _, _, h, p, r => by
    cases h with
    | tup hs ra =>
      cases r
      obtain ⟨its, rv, ⟨o, ho, hc, n, hd⟩, _⟩ := I.tuple (same_sqt w.le hs)
      obtain ⟨as, hr, hn⟩ := Rep.readsA w I sm ds _ its ra p rv
      exact ⟨_, .tuple ho hc hd hr, hn⟩
  | .dct kvs, _, _, h, p, r => by
    cases h with
    | dct hs ra =>
      cases r
      have e := w.le _ _ hs
      obtain ⟨_, _, hsm, vs, kv, o, es, ep, ho, hex, hd, _, hp, _⟩ := I.hok _ _ e
      obtain ⟨as, bs, h1, h2, n1, n2⟩ := Rep.readsK w I sm kvs _ vs es.toList ra p kv hp
      refine ⟨_, .dict ho hex.1 hd h1 h2, fun z => ?_⟩
      rcases List.mem_append.mp z with z | z
      · rcases List.mem_cons.mp z with z | z
        · exact not_sm I sm e z.symm
        · exact n1 z
      · exact n2 z
  | .seq _, _, _, _, p, _ => by cases p
  | .obj _ _, _, _, _, p, _ => by cases p
  | .ref _, _, _, _, p, _ => by cases p
  | .ty _, _, _, _, p, _ => by cases p
  | .exc _ _, _, _, _, p, _ => by cases p
  | .hot _ _ _, _, _, _, p, _ => by cases p
  | .dco kvs, _, _, h, p, r => by
    cases h with
    | dco hs ho hr =>
      cases r
      have e := w.le _ _ hs
      obtain ⟨hg, _, _⟩ := I.hok _ _ e
      obtain ⟨es, ep, hd, pe⟩ := ho.es
      obtain ⟨i1, i2⟩ := odReads w I hr pe
      exact ⟨_, .dict hg ho.ex.1 hd i1 i2, fun z => by
        rcases List.mem_append.mp z with z | z
        · rcases List.mem_cons.mp z with z | z
          · exact not_sm I sm e z.symm
          · cases z
        · cases z⟩
theorem Rep.readsA (w : Wd X.K H σ K) (I : Inv X pins st K s) (sm : ∃ ob, X.base.get? sysModules = some ob) : ∀ (ds : List DT) (vs : List V) (us : List Value), RepA X.K H vs ds → plainA ds = true → Vals vs us → ∃ as, ReadsAll s.heap us (toPyA ds) as ∧ sysModules ∉ as
  | [], _, _, h, _, r => by cases h; cases r; exact ⟨_, .nil, by simp⟩
  | d :: ds, _, _, h, p, r => by
    cases h with
    | cons h1 h2 =>
      cases r with
      | cons r1 r2 =>
        have p := Bool.and_eq_true_iff.mp (show (plain d && plainA ds) = true from p)
        obtain ⟨as, q1, n1⟩ := Rep.reads w I sm d _ _ h1 p.1 r1
        obtain ⟨bs, q2, n2⟩ := Rep.readsA w I sm ds _ _ h2 p.2 r2
        exact ⟨_, .cons q1 q2, fun z => (List.mem_append.mp z).elim n1 n2⟩
theorem Rep.readsK (w : Wd X.K H σ K) (I : Inv X pins st K s) (sm : ∃ ob, X.base.get? sysModules = some ob) : ∀ (ds : List (DK × DT)) (kvs : List (Key × V)) (vs : List (Key × Value)) (es : List DictEntry), RepK X.K H kvs ds → plainK ds = true → KV kvs vs → Pairs (mixKind X.prog X.w) es vs →
    ∃ as bs, ReadsAll s.heap (es.map (·.key)) ((toPyK ds).map (·.1)) as ∧ ReadsAll s.heap (es.map (·.val)) ((toPyK ds).map (·.2)) bs ∧ sysModules ∉ as ∧ sysModules ∉ bs
  | [], _, _, _, h, _, r, hp => by cases h; cases r; cases hp; exact ⟨_, _, .nil, .nil, by simp, by simp⟩
  | (k, d) :: ds, _, _, _, h, p, r, hp => by
    cases h with
    | cons h1 h2 =>
      cases r with
      | cons r1 r2 =>
        cases hp with
        | cons p1 p2 p3 =>
          have p := Bool.and_eq_true_iff.mp (show (plain d && plainK ds) = true from p)
          obtain ⟨e1, r1⟩ := r1
          rw [← p2] at r1
          obtain ⟨bs, q1, n1⟩ := Rep.reads w I sm d _ _ h1 p.1 r1
          obtain ⟨as, bs2, q2, q3, n2, n3⟩ := Rep.readsK w I sm ds _ _ _ h2 p.2 r2 p3
          rw [← e1] at p1
          have hk := keyReads (h := s.heap) (k := k) p1
          exact ⟨[] ++ as, _, .cons hk q2, .cons q1 q3, by simpa using n2, fun z => (List.mem_append.mp z).elim n1 n3⟩
end
end
section
variable {c : Ct} {ρ : EnvT} {σ : Sg} {x y d : DT} {e elt iter tg : Expr} {pos : Pos} {ifs : List Expr} {scope : Scope} {own : List (Str × Nat)} {t : TgS}
/-- repr of a list, a tuple, a dict -/
theorem pf_repr (sm : ∃ ob, c.base.get? sysModules = some ob) (hr : ∀ F H v, Rep F H v d → ∃ a, v = .ref a) (hp : plain d = true) (h1 : (toPy d).showable = true) (h3 : (toPy d).depth ≤ 64) (h4 : (toPy d).shown.length ≤ sizeLine) : POF c (.builtin "repr") [d] σ (.str (toPy d).shown.cps.toList) := ⟨fun X hX H K w vs ra Q k => by
  have hX' := hX
  cases hX' with
  | mk _ k' Wx fa hpp hrH hcf hh hp' htk hf' hN hU hst =>
    obtain ⟨v, rfl, rv⟩ := repA_one ra
    obtain ⟨a, rfl⟩ := hr _ _ _ rv
    intro pins s st us I r
    obtain ⟨u, rfl, ru⟩ := vals1 r
    cases ru
    obtain ⟨as, rd, nsm⟩ := Rep.reads w I sm d _ _ rv hp rfl
    refine repr_of_reads' rd h1 (fun _ => nsm) hU (by have := hrH.un; omega) (fun _ _ z => z) (fun h' u tk hk => ⟨.str _, K, I.kept hk, ⟨_, rfl⟩, k _ H K Gw.refl w ?_⟩) h4
    have := Rep.str (F := X.K) (H := H) (toPy d).shown.cps.toList
    rwa [S_tl] at this⟩
/-- == of data -/
theorem po_eqD (sm : ∃ ob, c.base.get? sysModules = some ob) (p1 : plain x = true) (p2 : plain y = true) (s1 : SeqAt.shaped (toPy x) = true) (s2 : SeqAt.shaped (toPy y) = true) : PO2 c (compareOp .Eq) x y σ (.bl (PyData.eqv (toPy x) (toPy y))) := ⟨fun X hX H K w v u rv ru Q k => by
  have hX' := hX
  cases hX' with
  | mk _ k' Wx fa hpp hrH hcf hh hp' htk hf' hN hU hst =>
    intro pins s st v' u' I r1 r2
    obtain ⟨as, q1, _⟩ := Rep.reads w I sm x _ _ rv p1 r1
    obtain ⟨bs, q2, _⟩ := Rep.reads w I sm y _ _ ru p2 r2
    exact SeqAt.compareEq_shaped q1 q2 s1 s2 (hunits hrH) ⟨.bl _, K, I, rfl, k _ H K Gw.refl w (.bl _)⟩⟩
theorem po_neD (sm : ∃ ob, c.base.get? sysModules = some ob) (p1 : plain x = true) (p2 : plain y = true) (s1 : SeqAt.shaped (toPy x) = true) (s2 : SeqAt.shaped (toPy y) = true) : PO2 c (compareOp .NotEq) x y σ (.bl (!PyData.eqv (toPy x) (toPy y))) := ⟨fun X hX H K w v u rv ru Q k => by
  have hX' := hX
  cases hX' with
  | mk _ k' Wx fa hpp hrH hcf hh hp' htk hf' hN hU hst =>
    intro pins s st v' u' I r1 r2
    obtain ⟨as, q1, _⟩ := Rep.reads w I sm x _ _ rv p1 r1
    obtain ⟨bs, q2, _⟩ := Rep.reads w I sm y _ _ ru p2 r2
    exact SeqAt.compareNe_shaped q1 q2 s1 s2 (hunits hrH) ⟨.bl _, K, I, rfl, k _ H K Gw.refl w (.bl _)⟩⟩
/-! ### comprehensions by values -/
def LcV (c : Ct) (ifs : List Expr) (elt : Expr) (ρ : EnvT) (σ : Sg) (b : Bool) (d : DT) : Prop :=
  match ifs with
  | [] => b = true ∧ TV c elt ρ σ d
  | [a] => TB c a ρ σ b ∧ (b = true → TV c elt ρ σ d)
  | _ => False
theorem lcNeed_of {α : Type} {l : List α} {g f : α → DT} {tt : α → Bool} {ρ' : α → EnvT} {Q : DT → Sg → Prop} (hn : l.length ≤ 1000000) (hst : ∀ a ∈ l, stT t (g a) (wipeT ρ (own.map (·.2))) = some (ρ' a)) (hs : ∀ a ∈ l, LcV (c.blk scope) ifs elt (ρ' a) σ (tt a) (f a))
    (q : ∀ D, σ D = none → Q (.ref D) (su σ D (.lst ((l.filter tt).map f)))) : LcNeed c t own ifs elt scope ρ Q (l.map g) σ := by
  refine ⟨by rw [List.length_map]; exact hn, fun i acc σ2 => σ2 = σ ∧ acc = ((l.take i).filter tt).map f, ⟨rfl, by simp⟩, fun i d acc σ2 hd ⟨e1, e2⟩ => ?_, fun D acc σ2 hD _ ⟨e1, e2⟩ => ?_⟩
  · subst e1 e2
    rw [List.getElem?_map] at hd
    obtain ⟨a, ha, rfl⟩ := Option.map_eq_some_iff.mp hd
    have hm : a ∈ l := List.mem_of_getElem? ha
    refine ⟨ρ' a, hst a hm, ?_⟩
    have hi : i < l.length := (List.getElem?_eq_some_iff.mp ha).1
    have tk : l.take (i + 1) = l.take i ++ [a] := by rw [List.take_succ, ha]; rfl
    have h := hs a hm
    match ifs, h with
    | [], h =>
      refine h.2.to ⟨rfl, ?_⟩
      rw [tk, List.filter_append, List.map_append, List.filter_cons_of_pos h.1]
      rfl
    | [b], h =>
      refine h.1.to ⟨fun e => (h.2 e).to ⟨rfl, ?_⟩, fun e => ⟨rfl, ?_⟩⟩
      · rw [tk, List.filter_append, List.map_append, List.filter_cons_of_pos e]
        rfl
      · rw [tk, List.filter_append, List.map_append, List.filter_cons_of_neg (by rw [e]; decide)]
        simp
    | _ :: _ :: _, h => exact h.elim
  · subst e1 e2
    rw [List.length_map, List.take_length]
    exact q D hD
theorem tv_lc {α : Type} {l : List α} {g f : α → DT} {tt : α → Bool} {ρ' : α → EnvT} (htg : TgOk (c.blk scope) tg t) (hb : blkC c.N c.sc scope own = true) (hsub : ∀ j ∈ t.slots, j ∈ own.map (·.2)) (hi : TVI c tg iter ρ σ (l.map g)) (hn : l.length ≤ 1000000)
    (hst : ∀ a ∈ l, stT t (g a) (wipeT ρ (own.map (·.2))) = some (ρ' a)) (hs : ∀ a ∈ l, LcV (c.blk scope) ifs elt (ρ' a) σ (tt a) (f a)) (hf : ∀ env x, foldedSetIterable iter env x = pure x := by intro _ _; rfl) :
    TV c (.ListComp elt [⟨tg, iter, ifs, 0⟩] scope pos) ρ σ (.lst ((l.filter tt).map f)) := ⟨fun {Q E} q => te_frz (te_lcC htg hb hsub (hi.to (lcNeed_of hn hst hs fun D hD => ⟨D, _, rfl, su_same, by rw [sd_su hD]; exact q⟩)) hf)⟩
theorem tv_lcM {α : Type} {l : List α} {g f : α → DT} {ρ' : α → EnvT} (htg : TgOk (c.blk scope) tg t) (hb : blkC c.N c.sc scope own = true) (hsub : ∀ j ∈ t.slots, j ∈ own.map (·.2)) (hi : TVI c tg iter ρ σ (l.map g)) (hn : l.length ≤ 1000000)
    (hst : ∀ a ∈ l, stT t (g a) (wipeT ρ (own.map (·.2))) = some (ρ' a)) (hs : ∀ a ∈ l, TV (c.blk scope) elt (ρ' a) σ (f a)) (hf : ∀ env x, foldedSetIterable iter env x = pure x := by intro _ _; rfl) :
    TV c (.ListComp elt [⟨tg, iter, [], 0⟩] scope pos) ρ σ (.lst (l.map f)) := by
  have := tv_lc (pos := pos) (tt := fun _ => true) htg hb hsub hi hn hst (ifs := []) (elt := elt) (f := f) (fun a ha => ⟨rfl, hs a ha⟩) hf
  rwa [List.filter_eq_self.mpr (fun _ _ => rfl)] at this
/-- .. given to a name, on one line -/
theorem tk_setLcV {α : Type} {l : List α} {g f : α → DT} {tt : α → Bool} {ρ' : α → EnvT} {D : EndT} {r : List Stmt} {x : Str} {p1 p2 : Pos} {i : Nat} (hy : c.N[i]? = some x) (hyl : c.sc.names.lookup x = some .local) (hln : (p1.line == pos.line) = true) (hown : (scope.names.any fun (n, k) => n == x && (k == .local || k == .cell)) = false)
    (hil : i < ρ.length) (htg : TgOk (c.blk scope) tg t) (hb : blkC c.N c.sc scope own = true) (hsub : ∀ j ∈ t.slots, j ∈ own.map (·.2)) (hi : TVI c tg iter ρ σ (l.map g)) (hn : l.length ≤ 1000000)
    (hst : ∀ a ∈ l, stT t (g a) (wipeT ρ (own.map (·.2))) = some (ρ' a)) (hs : ∀ a ∈ l, LcV (c.blk scope) ifs elt (ρ' a) σ (tt a) (f a)) (h : TBk c r (ρ.set i (some (.lst ((l.filter tt).map f)))) σ D) (hf : ∀ env x, foldedSetIterable iter env x = pure x := by intro _ _; rfl) :
    TBk c (.Assign [.Name x p1] (.ListComp elt [⟨tg, iter, ifs, 0⟩] scope pos) p2 :: r) ρ σ D :=
  tk_cons (ts_setLc hy hyl hln hown htg hb hsub (hi.to (lcNeed_of hn hst hs fun D hD => tk_frz (i := i) (by rw [List.getElem?_set_self hil]) su_same (by rw [List.set_set, sd_su hD]; exact h))) hf)
theorem tk_setLcM {α : Type} {l : List α} {g f : α → DT} {ρ' : α → EnvT} {D : EndT} {r : List Stmt} {x : Str} {p1 p2 : Pos} {i : Nat} (hy : c.N[i]? = some x) (hyl : c.sc.names.lookup x = some .local) (hln : (p1.line == pos.line) = true) (hown : (scope.names.any fun (n, k) => n == x && (k == .local || k == .cell)) = false)
    (hil : i < ρ.length) (htg : TgOk (c.blk scope) tg t) (hb : blkC c.N c.sc scope own = true) (hsub : ∀ j ∈ t.slots, j ∈ own.map (·.2)) (hi : TVI c tg iter ρ σ (l.map g)) (hn : l.length ≤ 1000000)
    (hst : ∀ a ∈ l, stT t (g a) (wipeT ρ (own.map (·.2))) = some (ρ' a)) (hs : ∀ a ∈ l, TV (c.blk scope) elt (ρ' a) σ (f a)) (h : TBk c r (ρ.set i (some (.lst (l.map f)))) σ D) (hf : ∀ env x, foldedSetIterable iter env x = pure x := by intro _ _; rfl) :
    TBk c (.Assign [.Name x p1] (.ListComp elt [⟨tg, iter, [], 0⟩] scope pos) p2 :: r) ρ σ D :=
  tk_setLcV (tt := fun _ => true) hy hyl hln hown hil htg hb hsub hi hn hst (fun a ha => ⟨rfl, hs a ha⟩) (by rw [List.filter_eq_self.mpr (fun _ _ => rfl)]; exact h) hf
end
/-! ### stores into a list that is a cell -/
section
variable {c : Ct} {ρ : EnvT} {σ : Sg} {D : EndT} {e a b : Expr} {pos p1 : Pos}
theorem ts_setItem (h : TE c e ρ σ (fun v σ1 => TE c a ρ σ1 (fun o σ2 => TE c b ρ σ2 (fun i σ3 => ∃ p xs k j, o = .ref p ∧ i = .int k ∧ σ3 p = some (.lst xs) ∧ ixN xs.length k = some j ∧ D.nx ρ (su σ3 p (.lst (xs.set j v)))) (xD D ρ)) (xD D ρ)) (xD D ρ))
    (ha : ∀ env v, assign (.Subscript a b p1) env v = (do
      let ov ← holding [v] (eval a env)
      let iv ← holding [v, ov] (eval b env)
      standAt p1
      holding [v, ov, iv] (setItem ov iv v)
      release [v, ov, iv] []) := by intro _ _; rfl) (hsw : ∀ env, swapsWithSole [.Subscript a b p1] e pos.line env = pure false := by intro _; rfl) (hst : ∀ env, swappedStores [.Subscript a b p1] e env = pure none := by intro _; rfl)
    (has : ∀ env, (assignEach [.Subscript a b p1] env).map (·.2) = [assign (.Subscript a b p1) env] := by intro _; rfl) : TS c (.Assign [.Subscript a b p1] e pos) ρ σ D := ⟨fun X hX st H K w re D' f => by
  refine cS_of (ps_asg cE_pe (pg_sub cE_pe cE_pe set_list (ha _)) (hsw _) (hst _) (has _)) ?_
  refine h.run X hX st H K w re (f.xc re) _ fun v d σ1 H1 K1 g1 w1 rv h1 => ?_
  refine h1.run X hX st H1 K1 w1 (re.same g1.b) ((f.next g1).xc (re.same g1.b)) _ fun o dO σ2 H2 K2 g2 w2 ro h2 => ?_
  have g12 := g1.trans g2
  refine h2.run X hX st H2 K2 w2 (re.same g12.b) ((f.next g12).xc (re.same g12.b)) _ fun i di σ3 H3 K3 g3 w3 ri ⟨p, xs, k, j, e1, e2, e3, e4, q⟩ => ?_
  subst e1 e2
  cases ro
  cases ri
  have g := g12.trans g3
  obtain ⟨vs, e5, ra⟩ := w3.on p _ e3
  refine ⟨p, vs, k, j, rfl, rfl, e5, by rw [ra.length]; exact e4, ?_⟩
  exact f.nx _ _ _ H3 _ (g.trans (Gw.write e3)) (w3.write e3 (c' := .lst (xs.set j d)) ⟨_, upd_same, RepA.set (rv.same (g2.trans g3).b) j ra⟩) (re.same g.b) q⟩
end
/-! ### the law -/
def lawSpec : TSpec := fun ds σ Q _ => ∃ ns : List Int, ds = [.seq (ns.map DT.int)] ∧ ns.length ≤ 63 ∧ (∀ z ∈ ns, Builtin.Int.intBits z ≤ 1048576) ∧ ∀ σ', Q (.bl true) σ'
theorem walkT {l : PySem.W.OpenLaw} {k : Nat} {q : Program} {loose : List Str} {XP : (Str → Option Value) → Heap → Prop} {YP : World → Heap → Prop} {d : DefRec} {K : Params → PySem.W.Frag} {x : Str}
    (hi : PyProof.Rows.importsNone q = true) (hn : l.most = some 63) (hdf : d.params.defaults = []) (hr : Room k callerA) (hY : ∀ (w : World) (h : Heap), YP w h → (K w.params).In h)
    (G : ∀ (w : World) (mg : Str → Option Value) (fa : Addr) (h : Heap), (K w.params).In h → h.Ns mainGlobals mg → mg d.name = some (.ref fa) →
      ∃ fd : FuncData, (∀ (s : Shared) (u : Value), BindsTo s fd ⟨[u], []⟩ [(x, u)]) ∧ ∀ base : Heap, (K w.params).In base → base.Ns mainGlobals mg → (∃ ob, base.get? sysModules = some ob) → FnG l.prog w (K w.params) mg base k fa fd [x] (spT (K w.params) lawSpec)) :
    PySem.W.WalkO q loose XP YP l.row.toRowW d [] (fun f vs => PySem.call f vs) :=
  walkG (n := 63) (k := k) (x := x) (sp := fun w => spT (K w.params) lawSpec) hi hn (by decide) hdf hr hY G
    fun w H a ns hl hz _ hs => ⟨[.seq (ns.map DT.int)], H, fun _ => none, fun d _ => d = .bl true, TX0, ⟨Same.refl H, (fun _ _ e => nomatch e), (fun _ _ e => nomatch e)⟩, .cons (.seq hs (repA_of V.int DT.int (fun i => .int i) ns)) .nil, ⟨ns, rfl, hl, hz, fun _ => rfl⟩,
      fun v d σ' H' K' _ _ rv e => by subst e; cases rv; rfl, fun _ _ _ _ _ _ _ _ _ z => z.elim⟩
end Y

/-! Y7: trees of bounded size: their repr, their ==. -/
namespace Y
open PySem PySem.Spec L2 SX Z
theorem shown_int_big {i : Int} (h : i.natAbs < 10 ^ 61) : (PyData.shown (.int i)).length ≤ 63 := by
  have e := int_text_length_le10 (k := 61) (by decide) h
  show (Str.ofString (toString i)).length ≤ 63
  rw [PySem.ofString_length]
  omega
structure GdF (n w : Nat) (d : PyData) : Prop where
  dep : d.depth ≤ n
  wt : d.weight ≤ w
  sh : d.showable = true
  lv : d.leavesShort 63 = true
mutual
inductive Gd : Nat → Nat → DT → Prop
  | non {n w : Nat} : Gd n w .non
  | bl {n w : Nat} (b : Bool) : Gd n w (.bl b)
  | int {n w : Nat} {i : Int} (h : i.natAbs < 10 ^ 61) (hw : 203 ≤ w) : Gd n w (.int i)
  | sml {n w : Nat} {i : Int} (h : i.natAbs < 256) (hw : 8 ≤ w) : Gd n w (.int i)
  | dco {n w : Nat} {kvs : List (OKey × Int)} (f : GdF n w (toPy (.dco kvs))) : Gd n w (.dco kvs)
  | str {n w : Nat} {s : List Nat} (h : s.length ≤ w) (ok : s.all (fun k => decide (k < 1114112)) = true) : Gd n w (.str s)
  | lst {n w : Nat} {xs : List DT} (h : GdA n w xs) : Gd (n + 1) w (.lst xs)
  | tup {n w : Nat} {xs : List DT} (h : GdA n w xs) : Gd (n + 1) w (.tup xs)
  | dct {n w : Nat} {xs : List (DK × DT)} (h : GdK n w xs) : Gd (n + 1) w (.dct xs)
inductive GdA : Nat → Nat → List DT → Prop
  | nil {n w : Nat} : GdA n w []
  | cons {n w w1 w2 : Nat} {x : DT} {xs : List DT} (h : Gd n w1 x) (h2 : GdA n w2 xs) (e : w1 + 1 + w2 ≤ w) : GdA n w (x :: xs)
inductive GdK : Nat → Nat → List (DK × DT) → Prop
  | nil {n w : Nat} : GdK n w []
  | cons {n w w0 w1 w2 : Nat} {k : DK} {x : DT} {xs : List (DK × DT)} (h0 : Gd n w0 (dk k)) (h : Gd n w1 x) (h2 : GdK n w2 xs) (e : w0 + w1 + 2 + w2 ≤ w) : GdK n w ((k, x) :: xs)
end
theorem gdF_int {n w : Nat} {i : Int} (h : i.natAbs < 10 ^ 61) (hw : 203 ≤ w) : GdF n w (.int i) := by
  have hl : i.natAbs.log2 < 203 := by
    by_cases z : i.natAbs = 0
    · rw [z]; decide
    · exact (Nat.log2_lt z).mpr (Nat.lt_of_lt_of_le h (by decide))
  refine ⟨Nat.zero_le _, ?_, decide_eq_true (by omega), decide_eq_true (shown_int_big h)⟩
  unfold PyData.weight
  split <;> omega
theorem gdF_ints {n w : Nat} {i : Int} (h : i.natAbs < 256) (hw : 8 ≤ w) : GdF n w (.int i) := by
  have h61 : i.natAbs < 10 ^ 61 := Nat.lt_trans h (by decide)
  have hl : i.natAbs.log2 < 8 := by
    by_cases z : i.natAbs = 0
    · rw [z]; decide
    · exact (Nat.log2_lt z).mpr h
  refine ⟨Nat.zero_le _, ?_, decide_eq_true (by omega), decide_eq_true (shown_int_big h61)⟩
  unfold PyData.weight
  split <;> omega
theorem gdF_str {n w : Nat} {s : List Nat} (h : s.length ≤ w) (ok : s.all (fun k => decide (k < 1114112)) = true) : GdF n w (.str (S s)) := by
  refine ⟨Nat.zero_le _, by unfold PyData.weight; simpa [S] using h, rfl, ?_⟩
  unfold PyData.leavesShort
  rw [List.all_eq_true] at ok ⊢
  intro k hk
  have := of_decide_eq_true (ok k (by simpa [S] using hk))
  exact decide_eq_true (Nat.lt_trans this (by decide))
theorem gdF_key {n w : Nat} {k : DK} (h : Gd n w (dk k)) : GdF n w (keyPy k) := by
  cases k with
  | inl i =>
    cases h with
    | int h hw => exact gdF_int h hw
    | sml h hw => exact gdF_ints h hw
  | inr s => cases h with | str h ok => exact gdF_str h ok
mutual
theorem Gd.plain : ∀ {n w : Nat} {d : DT}, Gd n w d → Y.plain d = true
  | _, _, _, .non => rfl
  | _, _, _, .bl _ => rfl
  | _, _, _, .int _ _ => rfl
  | _, _, _, .sml _ _ => rfl
  | _, _, _, .dco _ => rfl
  | _, _, _, .str _ _ => rfl
  | _, _, _, .lst h => GdA.plain h
  | _, _, _, .tup h => GdA.plain h
  | _, _, _, .dct h => GdK.plain h
theorem GdA.plain : ∀ {n w : Nat} {d : List DT}, GdA n w d → plainA d = true
  | _, _, _, .nil => rfl
  | _, _, _, .cons h h2 _ => Bool.and_eq_true_iff.mpr ⟨Gd.plain h, GdA.plain h2⟩
theorem GdK.plain : ∀ {n w : Nat} {d : List (DK × DT)}, GdK n w d → plainK d = true
  | _, _, _, .nil => rfl
  | _, _, _, .cons _ h h2 _ => Bool.and_eq_true_iff.mpr ⟨Gd.plain h, GdK.plain h2⟩
end
mutual
theorem Gd.f : ∀ {n w : Nat} {d : DT}, Gd n w d → GdF n w (toPy d)
  | _, _, _, .non => ⟨Nat.zero_le _, Nat.zero_le _, rfl, rfl⟩
  | _, _, _, .bl _ => ⟨Nat.zero_le _, Nat.zero_le _, rfl, rfl⟩
  | _, _, _, .int h hw => gdF_int h hw
  | _, _, _, .sml h hw => gdF_ints h hw
  | _, _, _, .dco f => f
  | _, _, _, .str h ok => gdF_str h ok
  | _, _, _, .lst h => by
    obtain ⟨h1, h2, h3, h4⟩ := GdA.f h
    exact ⟨Nat.succ_le_succ h1, h2, h3, h4⟩
  | _, _, _, .tup h => by
    obtain ⟨h1, h2, h3, h4⟩ := GdA.f h
    exact ⟨Nat.succ_le_succ h1, h2, h3, h4⟩
  | _, _, _, .dct h => by
    obtain ⟨h1, h2, h3, h4⟩ := GdK.f h
    exact ⟨Nat.succ_le_succ h1, h2, h3, h4⟩
theorem GdA.f : ∀ {n w : Nat} {d : List DT}, GdA n w d → PyData.depthAll (toPyA d) ≤ n ∧ PyData.weightAll (toPyA d) ≤ w ∧ PyData.showableAll (toPyA d) = true ∧ PyData.leavesShortAll 63 (toPyA d) = true
  | _, _, _, .nil => ⟨Nat.zero_le _, Nat.zero_le _, rfl, rfl⟩
  | _, _, _, .cons h h2 e => by
    obtain ⟨a1, a2, a3, a4⟩ := Gd.f h
    obtain ⟨b1, b2, b3, b4⟩ := GdA.f h2
    simp only [toPyA, PyData.depthAll, PyData.weightAll, PyData.showableAll, PyData.leavesShortAll, a3, a4, b3, b4, Bool.and_self]
    exact ⟨Nat.max_le.mpr ⟨a1, b1⟩, by omega, trivial, trivial⟩
theorem GdK.f : ∀ {n w : Nat} {d : List (DK × DT)}, GdK n w d → PyData.depthKv (toPyK d) ≤ n ∧ PyData.weightKv (toPyK d) ≤ w ∧ PyData.showableKv (toPyK d) = true ∧ PyData.leavesShortKv 63 (toPyK d) = true
  | _, _, _, .nil => ⟨Nat.zero_le _, Nat.zero_le _, rfl, rfl⟩
  | _, _, _, .cons h0 h h2 e => by
    obtain ⟨c1, c2, c3, c4⟩ := gdF_key h0
    obtain ⟨a1, a2, a3, a4⟩ := Gd.f h
    obtain ⟨b1, b2, b3, b4⟩ := GdK.f h2
    simp only [toPyK, PyData.depthKv, PyData.weightKv, PyData.showableKv, PyData.leavesShortKv, a3, a4, b3, b4, c3, c4, Bool.and_self]
    exact ⟨Nat.max_le.mpr ⟨Nat.max_le.mpr ⟨c1, a1⟩, b1⟩, by omega, trivial, trivial⟩
end
theorem GdA.all {n w : Nat} : ∀ {xs : List DT}, (∀ x ∈ xs, Gd n w x) → GdA n (xs.length * (w + 1)) xs
  | [], _ => .nil
  | x :: xs, h => .cons (h x List.mem_cons_self) (GdA.all fun y hy => h y (List.mem_cons_of_mem _ hy)) (by rw [List.length_cons, Nat.add_mul]; omega)
theorem GdA.le {n a b : Nat} (h : a ≤ b) : ∀ {xs : List DT}, GdA n a xs → GdA n b xs
  | _, .nil => .nil
  | _, .cons h1 h2 e => .cons h1 h2 (by omega)
def isBox : DT → Bool
  | .lst _ => true
  | .tup _ => true
  | .dct _ => true
  | _ => false
theorem isBox_ref {d : DT} (h : isBox d = true) : ∀ F H v, Rep F H v d → ∃ a, v = .ref a := fun F H v r => by
  cases r with
  | lst => exact ⟨_, rfl⟩
  | tup => exact ⟨_, rfl⟩
  | dct => exact ⟨_, rfl⟩
  | _ => cases h
/-- the text of a tree -/
def reprT (d : DT) : List Nat := (toPy d).shown.cps.toList
section
variable {c : Ct} {σ : Sg} {x y d : DT} {xs : List DT}
theorem pf_reprG {n w : Nat} (sm : ∃ ob, c.base.get? sysModules = some ob) (hb : isBox d = true) (g : Gd n w d) (hn : n ≤ 64) (hw : w ≤ 250000) : POF c (.builtin "repr") [d] σ (.str (reprT d)) := by
  have f := g.f
  refine pf_repr sm (isBox_ref hb) g.plain f.sh (Nat.le_trans f.dep hn) ?_
  have := PyData.shown_le 63 (by decide) (toPy d) f.lv
  have h2 : (63 + 2) * (toPy d).weight ≤ (63 + 2) * 250000 := Nat.mul_le_mul (Nat.le_refl _) (Nat.le_trans f.wt hw)
  rw [sizeLine_eq]
  omega
/-! ### == of trees without dicts -/
def Sh : Nat → DT → Prop
  | _, .non => True
  | _, .bl _ => True
  | _, .int _ => True
  | _, .str s => s.all (fun k => decide (k < 1114112)) = true
  | n + 1, .lst xs => ∀ x ∈ xs, Sh n x
  | n + 1, .tup xs => ∀ x ∈ xs, Sh n x
  | _, _ => False
theorem sh_f : ∀ (n : Nat) (d : DT), Sh n d → Y.plain d = true ∧ (toPy d).canLay0 = true ∧ (toPy d).depth ≤ n := by
  have str : ∀ {n : Nat} {s : List Nat}, s.all (fun k => decide (k < 1114112)) = true → Y.plain (.str s) = true ∧ (toPy (.str s)).canLay0 = true ∧ (toPy (.str s)).depth ≤ n := fun {n s} h => by
    refine ⟨rfl, ?_, Nat.zero_le _⟩
    show PyData.strOk (S s) = true
    unfold PyData.strOk
    simp only [S]
    rw [← Array.all_toList]
    exact h
  have lst : ∀ (n : Nat), (∀ d, Sh n d → Y.plain d = true ∧ (toPy d).canLay0 = true ∧ (toPy d).depth ≤ n) → ∀ xs : List DT, (∀ x ∈ xs, Sh n x) → plainA xs = true ∧ PyData.canLayAll0 (toPyA xs) = true ∧ PyData.depthAll (toPyA xs) ≤ n := by
    intro n ih xs
    induction xs with
    | nil => intro _; exact ⟨rfl, rfl, Nat.zero_le _⟩
    | cons x xs ih2 =>
      intro h
      obtain ⟨a1, a2, a3⟩ := ih x (h x List.mem_cons_self)
      obtain ⟨b1, b2, b3⟩ := ih2 fun y hy => h y (List.mem_cons_of_mem _ hy)
      exact ⟨Bool.and_eq_true_iff.mpr ⟨a1, b1⟩, Bool.and_eq_true_iff.mpr ⟨a2, b2⟩, Nat.max_le.mpr ⟨a3, b3⟩⟩
  intro n
  induction n with
  | zero =>
    intro d h
    cases d with
    | non => exact ⟨rfl, rfl, Nat.le_refl _⟩
    | bl => exact ⟨rfl, rfl, Nat.le_refl _⟩
    | int => exact ⟨rfl, rfl, Nat.le_refl _⟩
    | str s => exact str h
    | _ => exact h.elim
  | succ n ih =>
    intro d h
    cases d with
    | non => exact ⟨rfl, rfl, Nat.zero_le _⟩
    | bl => exact ⟨rfl, rfl, Nat.zero_le _⟩
    | int => exact ⟨rfl, rfl, Nat.zero_le _⟩
    | str s => exact str h
    | lst xs =>
      obtain ⟨a, b, c⟩ := lst n ih xs h
      exact ⟨a, b, Nat.succ_le_succ c⟩
    | tup xs =>
      obtain ⟨a, b, c⟩ := lst n ih xs h
      exact ⟨a, b, Nat.succ_le_succ c⟩
    | _ => exact h.elim
theorem sh_sh {n : Nat} (h : Sh n d) (hn : n ≤ 64) : SeqAt.shaped (toPy d) = true := by
  obtain ⟨_, a, b⟩ := sh_f n d h
  unfold SeqAt.shaped
  rw [a, decide_eq_true (Nat.le_trans b hn)]
  rfl
theorem sh_ints {n : Nat} (ns : List Int) : Sh (n + 1) (.lst (ns.map DT.int)) := fun x hx => by
  obtain ⟨i, _, rfl⟩ := List.mem_map.mp hx
  cases n <;> exact trivial
/-- equal as data -/
def eqT (x y : DT) : Bool := PyData.eqv (toPy x) (toPy y)
theorem po_eqT {n m : Nat} (sm : ∃ ob, c.base.get? sysModules = some ob) (h1 : Sh n x) (h2 : Sh m y) (hn : n ≤ 64) (hm : m ≤ 64) : PO2 c (compareOp .Eq) x y σ (.bl (eqT x y)) := po_eqD sm (sh_f n x h1).1 (sh_f m y h2).1 (sh_sh h1 hn) (sh_sh h2 hm)
theorem po_neT {n m : Nat} (sm : ∃ ob, c.base.get? sysModules = some ob) (h1 : Sh n x) (h2 : Sh m y) (hn : n ≤ 64) (hm : m ≤ 64) : PO2 c (compareOp .NotEq) x y σ (.bl (!eqT x y)) := po_neD sm (sh_f n x h1).1 (sh_f m y h2).1 (sh_sh h1 hn) (sh_sh h2 hm)
theorem eqT_nil : eqT (.lst xs) (.lst []) = xs.isEmpty := by
  cases xs <;> rfl
theorem sh_nil : Sh 1 (.lst []) := fun _ h => nomatch h
theorem po_neNil (sm : ∃ ob, c.base.get? sysModules = some ob) (h : Sh 60 (.lst xs)) : PO2 c (compareOp .NotEq) (.lst xs) (.lst []) σ (.bl (!xs.isEmpty)) := by
  rw [← eqT_nil]
  exact po_neT sm h sh_nil (by decide) (by decide)
end
end Y

/-! Y8: comprehensions whose turns change the state; short forms. -/
namespace Y
open PySem PySem.Spec L2 SX Z
section
variable {c : Ct} {ρ : EnvT} {σ : Sg} {Q : DT → Sg → Prop} {E : TX} {tg iter elt : Expr} {scope : Scope} {pos : Pos} {own : List (Str × Nat)} {t : TgS}
/-- a list comprehension whose elements are told by Pa, the state after i turns by R i -/
theorem te_lcR {α : Type} {f : α → DT} {Pa : α → Prop} {R : Nat → Sg → Prop} (htg : TgOk (c.blk scope) tg t) (hb : blkC c.N c.sc scope own = true) (hsub : ∀ j ∈ t.slots, j ∈ own.map (·.2))
    (hi : TI c tg iter ρ σ (fun ds σ1 => ds.length ≤ 1000000 ∧ R 0 σ1 ∧ (∀ i d σ2, ds[i]? = some d → R i σ2 → ∃ ρ', stT t d (wipeT ρ (own.map (·.2))) = some ρ' ∧ TE (c.blk scope) elt ρ' σ2 (fun y σ3 => ∃ a, y = f a ∧ Pa a ∧ R (i + 1) σ3) TX0) ∧
      ∀ (l : List α) σ2, l.length = ds.length → (∀ a ∈ l, Pa a) → R ds.length σ2 → Q (.lst (l.map f)) σ2) E) (hf : ∀ env x, foldedSetIterable iter env x = pure x := by intro _ _; rfl) :
    TE c (.ListComp elt [⟨tg, iter, [], 0⟩] scope pos) ρ σ Q E := by
  refine te_frz (te_lcC htg hb hsub ⟨fun X hX st H K w r xc R' k => hi.run X hX st H K w r xc R' fun ds σ1 Jt G Yh H1 K1 g1 w1 ⟨hn, r0, hs, hq⟩ => k ds σ1 Jt G Yh H1 K1 g1 w1 ?_⟩ hf)
  refine ⟨hn, fun i acc σ2 => ∃ l : List α, acc = l.map f ∧ l.length = i ∧ (∀ a ∈ l, Pa a) ∧ R i σ2, ⟨[], rfl, rfl, (fun _ h => nomatch h), r0⟩, ?_, ?_⟩
  · rintro i d acc σ2 hd ⟨l, rfl, hl, hp, hr⟩
    obtain ⟨ρ', h1, h2⟩ := hs i d σ2 hd hr
    refine ⟨ρ', h1, TE.imp h2 ?_⟩
    rintro y σ3 ⟨a, rfl, pa, r3⟩
    refine ⟨l ++ [a], by simp, by simp [hl], fun b hb => ?_, r3⟩
    rcases List.mem_append.mp hb with z | z
    · exact hp b z
    · rw [List.mem_singleton.mp z]; exact pa
  · rintro D acc σ2 hD _ ⟨l, rfl, hl, hp, hr⟩
    refine ⟨D, _, rfl, su_same, ?_⟩
    rw [sd_su hD]
    exact hq l σ2 hl hp hr
/-- a value in the midst of what is not one -/
theorem te_v {e : Expr} {d : DT} (h : TV c e ρ σ d) (q : Q d σ) : TE c e ρ σ Q E := h.to q
theorem ta_v {e : Expr} {es : List Expr} {d : DT} {QA : List DT → Sg → Prop} (h : TV c e ρ σ d) (q : TA c es ρ σ (fun xs σ2 => QA (d :: xs) σ2) E) (hs : ∀ env, starEach (e :: es) env = (false, eval e env) :: starEach es env := by intro _; rfl) : TA c (e :: es) ρ σ QA E := ta_cons (h.to q) hs
theorem cut_two {a : List DT} {i j : Nat} {x y : Int} (hx : x = (i : Int)) (hy : y = (j : Int)) : cutT a (some x) (some y) = (a.drop i).take (j - i) := by
  subst hx hy
  unfold cutT
  rw [HT.sIx_nat, HT.sIx_nat]
  by_cases h : i ≤ a.length
  · rw [Nat.min_eq_left h]
    by_cases h2 : j ≤ a.length
    · rw [Nat.min_eq_left h2]
    · rw [Nat.min_eq_right (by omega), List.take_of_length_le (by rw [List.length_drop]; omega), List.take_of_length_le (by rw [List.length_drop]; omega)]
  · rw [Nat.min_eq_right (show a.length ≤ i by omega), List.drop_length, List.drop_of_length_le (by omega), List.take_nil, List.take_nil]
theorem cut_to {a : List DT} {j : Nat} {y : Int} (hy : y = (j : Int)) : cutT a none (some y) = a.take j := by
  have h : cutT a none (some y) = cutT a (some 0) (some y) := by
    unfold cutT
    rw [HT.sIx_none, show (0 : Int) = ((0 : Nat) : Int) from rfl, HT.sIx_nat]
    simp
  rw [h, cut_two (x := 0) (i := 0) rfl hy]
  simp
theorem cut_from {a : List DT} {i : Nat} {x : Int} (hx : x = (i : Int)) : cutT a (some x) none = a.drop i := by
  subst hx
  unfold cutT
  rw [HT.sIx_nat, HT.sIx_none]
  by_cases h : i ≤ a.length
  · rw [Nat.min_eq_left h, List.take_of_length_le (by rw [List.length_drop]; omega)]
  · rw [Nat.min_eq_right (by omega), List.drop_length, List.drop_of_length_le (by omega), List.take_nil]
end
end Y

/-! Y9: texts as lists and tuples, texts from behind, dicts written. -/
namespace Y
open PySem PySem.Spec L2 SX Z
open PyProof.Rows (subscriptTail)
theorem vals_get : ∀ {xs : List V} {us : List Value}, us.length = xs.length → (∀ (j : Nat) (u : Value), us[j]? = some u → ∃ x, xs[j]? = some x ∧ RelV x u) → Vals xs us
  | [], [], _, _ => .nil
  | [], _ :: _, h, _ => nomatch h
  | _ :: _, [], h, _ => nomatch h
  | x :: xs, u :: us, h, f => by
    obtain ⟨y, e, r⟩ := f 0 u rfl
    cases e
    exact .cons r (vals_get (Nat.succ.inj h) fun j v e => f (j + 1) v (by simpa using e))
/-- the signs of a text -/
def ones (a : List Nat) : List DT := a.map fun k => .str [k]
def onesV (a : List Nat) : List V := a.map fun k => V.str (S [k])
theorem rep_ones {F : PySem.W.Frag} {H : Hp} (a : List Nat) : RepA F H (onesV a) (ones a) := repA_of _ _ (fun k => .str [k]) a
theorem vals_ones {a : List Nat} {acc : Array Value} (h : ItemsOf (SignAt (S a)) acc (S a).cps.size) : Vals (onesV a) acc.toList := by
  have e : (S a).cps.size = a.length := by simp [S]
  refine vals_get (by rw [Array.length_toList, h.1, e]; simp [onesV]) fun j u hu => ?_
  obtain ⟨k, t, hk, rfl⟩ := h.2 j u (by rw [← Array.getElem?_toList]; exact hu)
  have hk : a[j]? = some k := by simpa [S] using hk
  exact ⟨.str (S [k]), by unfold onesV; rw [List.getElem?_map, hk]; rfl, t, rfl⟩
section
variable {c : Ct} {ρ : EnvT} {σ : Sg} {Q : DT → Sg → Prop} {E : TX} {x y d : DT} {a : List Nat} {e k v : Expr} {pos : Pos} {xs : List DT}
theorem pf_listS [Calm c] (hz : a.length ≤ 16777216) : POF c (.type "list") [.str a] σ (.lst (ones a)) := ⟨fun X hX H K w vs r Q k => by
  cases hX with
  | mk _ k' Wx fa hpp hrH hcf hh hp' htk hf' hN hU hst =>
    obtain rfl : hpp = none := ‹Calm _›.h
    obtain ⟨hc, hr⟩ := hcf rfl
    obtain ⟨v, rfl, rv⟩ := repA_one r
    cases rv
    intro pins s st us I ru
    obtain ⟨u, rfl, t, rfl⟩ := vals1 ru
    have hn : (S a).cps.size ≤ sizeLine := by rw [sizeLine_eq]; simpa [S] using hz
    refine call_list_str (hn := hn) (I.ok.hd hc) (S a) t fun h' tk acc c' hk hS hacc => ?_
    have hD := I.hok.fresh (Nat.le_refl s.heap.objs.size)
    obtain ⟨g, w2⟩ := w.new (o := .lst (onesV a)) hD
    exact ⟨.ref s.heap.objs.size, _, I.laid (t' := tk) (o := .lst (onesV a)) hk (Nat.le_refl _) ⟨by unfold onesV; rw [List.length_map, sizeLine_eq]; exact hz, acc.toList, c', vals_ones hacc, by rw [Array.toArray_toList]; exact hS⟩, rfl, k _ _ _ g w2 (.lst upd_same ((rep_ones a).same g.b))⟩⟩
theorem pf_tupS [Calm c] (hz : a.length ≤ 16777216) : POF c (.type "tuple") [.str a] σ (.tup (ones a)) := ⟨fun X hX H K w vs r Q k => by
  cases hX with
  | mk _ k' Wx fa hpp hrH hcf hh hp' htk hf' hN hU hst =>
    obtain rfl : hpp = none := ‹Calm _›.h
    obtain ⟨hc, hr⟩ := hcf rfl
    obtain ⟨v, rfl, rv⟩ := repA_one r
    cases rv
    intro pins s st us I ru
    obtain ⟨u, rfl, t, rfl⟩ := vals1 ru
    have hn : (S a).cps.size ≤ sizeLine := by rw [sizeLine_eq]; simpa [S] using hz
    refine call_tuple_str (hsz := hn) (I.ok.hd hc) (S a) t fun h' tk acc hk hacc => ?_
    have I2 : Inv X pins st K { s with heap := h', toks := tk } := I.kept (t' := tk) hk
    have hD := I2.hok.fresh (Nat.le_refl h'.objs.size)
    obtain ⟨g, w2⟩ := w.new (o := .tup (onesV a)) hD
    exact ⟨.ref h'.objs.size, _, I2.laid (t' := tk) (o := .tup (onesV a)) (fun b o e => Heap.get?_push_of_some _ e) (Nat.le_refl _) ⟨by unfold onesV; rw [List.length_map, sizeLine_eq]; exact hz, acc.toList, vals_ones hacc, _, Heap.get?_push_size _ rfl, rfl, 0, by rw [Array.toArray_toList]⟩, rfl, k _ _ _ g w2 (.tup (SqT.of upd_same) ((rep_ones a).same g.b))⟩⟩
/-! ### dicts written -/
theorem te_dict0 (h : ∀ p, σ p = none → Q (.ref p) (su σ p (.dct []))) : TE c (.Dict [] [] pos) ρ σ Q E := ⟨fun X hX st H K w r xc Q' f => cE_of pe_dnewK fun p hp =>
  f _ _ _ H _ (Gw.newC hp) ((w.push (o := .dK []) hp).add (c := .dct []) (none_of w.le hp) ⟨[], upd_same, .nil⟩) (.ref p) (h p (w.free hp))⟩
theorem tv_dict0 : TV c (.Dict [] [] pos) ρ σ (.dct []) := ⟨fun {Q E} q => te_frz (te_dict0 fun p hp => ⟨p, _, rfl, su_same, by rw [sd_su hp]; exact q⟩)⟩
/-- {k: v} -/
theorem te_dict1 (h : TE c k ρ σ (fun x σ1 => TE c v ρ σ1 (fun y σ2 => ∃ kk, x = dk kk ∧ ∀ p, σ2 p = none → Q (.ref p) (su σ2 p (.dct [(kk, y)]))) E) E) : TE c (.Dict [some k] [v] pos) ρ σ Q E := ⟨fun X hX st H K w r xc Q' f => by
  refine cE_of (pe_disp (pps_cons cE_pe cE_pe pps_nil) rfl rfl (by simp) (by simp)) fun p hp => ?_
  have hH : H p = none := none_of w.le hp
  have g0 : Gw H σ K H σ (upd K p (.dK [])) := Gw.push hp
  refine h.run X hX st H _ (w.push hp) r (xc.next g0) _ fun x dx σ1 H1 K1 g1 w1 rx h1 => ?_
  obtain ⟨e1, n1, m1⟩ := g1.hid (o := .dK []) upd_same (fun _ z => nomatch z) (w.free hp) hH
  refine h1.run X hX st H1 K1 w1 (r.same g1.b) (xc.next (g0.trans g1)) _ fun y dy σ2 H2 K2 g2 w2 ry ⟨kk, ek, q⟩ => ?_
  subst ek
  cases rx.key
  obtain ⟨e2, n2, m2⟩ := g2.hid e1 (fun _ z => nomatch z) n1 m1
  refine ⟨e2, [(keyD kk, y)], rfl, by simp, ?_⟩
  have gg := (g0.trans (g1.trans g2)).touch (o := .dK (mergeK [] [(keyD kk, y)])) hp
  exact f _ _ _ H2 _ (gg.add hp) ((w2.touch m2 n2 e2 (fun _ z => nomatch z)).add (c := .dct [(kk, dy)]) m2 ⟨_, upd_same, .cons ry .nil⟩) (.ref p) (q p n2)⟩
theorem tv_dict1 {kk : DK} (h1 : TV c k ρ σ (dk kk)) (h2 : TV c v ρ σ y) : TV c (.Dict [some k] [v] pos) ρ σ (.dct [(kk, y)]) := ⟨fun {Q E} q => te_frz (te_dict1 (h1.to (h2.to ⟨kk, rfl, fun p hp => ⟨p, _, rfl, su_same, by rw [sd_su hp]; exact q⟩⟩)))⟩
theorem tv_dict1S {s : List Nat} (h1 : TV c k ρ σ (.str s)) (h2 : TV c v ρ σ y) : TV c (.Dict [some k] [v] pos) ρ σ (.dct [(.inr s, y)]) := tv_dict1 (kk := .inr s) h1 h2
end
end Y

/-! Yd: dicts over trees; texts sorted, any number of them. -/
namespace Y
open PySem PySem.Spec PyProof.Rows L2 SX Z
/-- what stands at a key -/
def dvl (kvs : List (DK × DT)) (k : DK) : Option DT := (kvs.find? fun kv => decide (kv.1 = k)).map (·.2)
section
variable {F : PySem.W.Frag} {H : Hp}
theorem RepK.val (k : DK) : ∀ {vs : List (Key × V)} {kvs : List (DK × DT)}, RepK F H vs kvs → (∀ d, dvl kvs k = some d → ∃ v, valV vs (keyD k) = some v ∧ Rep F H v d) ∧ (dvl kvs k = none → valV vs (keyD k) = none)
  | _, _, .nil => ⟨fun d e => (by cases e), fun _ => rfl⟩
  | _, _, .cons (k := k2) (vs := vs) (v := v0) (d := d0) (ds := ds) h t => by
    obtain ⟨i1, i2⟩ := RepK.val k t
    by_cases e : k2 = k
    · subst e
      have a : dvl ((k2, d0) :: ds) k2 = some d0 := by unfold dvl; rw [List.find?_cons, decide_eq_true rfl]; rfl
      rw [a, valV_pos rfl]
      exact ⟨fun d q => by cases q; exact ⟨_, rfl, h⟩, fun q => nomatch q⟩
    · have a : ∀ d, dvl ((k2, d) :: ds) k = dvl ds k := fun d => by unfold dvl; rw [List.find?_cons, decide_eq_false e]
      rw [a, valV_neg (fun z => e (keyD_inj z))]
      exact ⟨i1, i2⟩
theorem RepK.keys : ∀ {vs : List (Key × V)} {kvs : List (DK × DT)}, RepK F H vs kvs → RepA F H (vs.map fun kv => kV kv.1) (kvs.map fun kv => dk kv.1)
  | _, _, .nil => .nil
  | _, _, .cons h t => .cons (rep_dk _) (RepK.keys t)
end
section
variable {c : Ct} {ρ : EnvT} {σ : Sg} {e a b : Expr} {pos p : Pos} {x d : DT} {k : DK} {kvs : List (DK × DT)} {Q : DT → Sg → Prop} {E : TX} {D : EndT} {p1 : Pos}
theorem con_room {X : Cx} (hX : Con c X) : X.A.units + 64 < cLine := by
  cases hX with
  | mk _ k' Wx fl hpp hrH hcf hh hp' ht hf hN hU hst => exact hunits hrH
theorem con_calm [Calm c] {X : Cx} (hX : Con c X) : X.calm = true := by
  cases hX with
  | mk _ k' Wx fl hpp hrH hcf hh hp' ht hf hN hU hst => exact (hcf ‹Calm _›.h).1
/-- d.get(k, x) -/
theorem pm_get2 (hx : DiT σ x kvs) : POM c "dict.get" x [dk k, d] σ ((dvl kvs k).getD d) := ⟨fun {Q} q => ⟨fun X hX H K w v vs rv ra Q' fo => by
  have hu := con_room hX
  cases hX
  obtain ⟨u, u2, rfl, rk, rd⟩ := repA_two ra
  obtain ⟨a, ws, rfl, q1, r1⟩ := hx.now w rv
  have ek := rk.key
  subst ek
  intro pins s st v2 us I r2 r3
  obtain ⟨z1, z2, rfl, y1, y2⟩ := vals2 r3
  cases r2
  refine d_get2 (by omega) I (.inl ⟨ws, keyD k, q1, rfl, rfl⟩) y1 y2 fun w' s3 I3 rw' => ?_
  obtain ⟨i1, i2⟩ := r1.val k
  cases hd : dvl kvs k with
  | some dd =>
    obtain ⟨vv, e1, e2⟩ := i1 dd hd
    rw [e1] at rw'
    exact ⟨vv, K, I3, rw', fo _ _ σ H K Gw.refl w e2 (by rw [hd] at q; exact q)⟩
  | none =>
    rw [i2 hd] at rw'
    exact ⟨u2, K, I3, rw', fo _ _ σ H K Gw.refl w rd (by rw [hd] at q; exact q)⟩⟩⟩
theorem pf_listD [Calm c] (hx : DiT σ x kvs) : POF c (.type "list") [x] σ (.lst (kvs.map fun kv => dk kv.1)) := ⟨fun X hX H K w vs r Q q => by
  have hc := con_calm hX
  cases hX
  obtain ⟨u, rfl, ru⟩ := repA_one r
  obtain ⟨a, ws, rfl, q1, r1⟩ := hx.now w ru
  refine cF_of (call_listD hc) ⟨a, ws, rfl, q1, fun p hp => ?_⟩
  obtain ⟨s2, w2⟩ := w.new (o := .lst (ws.map fun kv => kV kv.1)) hp
  exact q _ _ _ s2 w2 (.lst upd_same (r1.keys.same s2.b))⟩
end
/-! ### texts in ascending order -/
def srtT (l : List (List Nat)) : List (List Nat) := l.mergeSort fun a b => decide (a ≤ b)
theorem srtT_perm (l : List (List Nat)) : (srtT l).Perm l := List.mergeSort_perm l _
theorem srtT_pair (l : List (List Nat)) : (srtT l).Pairwise (· ≤ ·) := by
  have h := List.pairwise_mergeSort (le := fun a b : List Nat => decide (a ≤ b)) (fun a b c h1 h2 => decide_eq_true (List.le_trans (of_decide_eq_true h1) (of_decide_eq_true h2)))
    (fun a b => by
      rcases List.le_total a b with h | h
      · rw [decide_eq_true h]; rfl
      · rw [decide_eq_true h, Bool.or_true]) l
  exact h.imp fun h => of_decide_eq_true h
theorem srtT_uniq {l m : List (List Nat)} (h : m.Perm l) (s : m.Pairwise (· ≤ ·)) : m = srtT l := List.Perm.eq_of_pairwise (le := (· ≤ ·)) (fun a b _ _ h1 h2 => List.le_antisymm h1 h2) s (srtT_pair l) (h.trans (srtT_perm l).symm)
theorem srtT_same {l m : List (List Nat)} (h : l.Perm m) : srtT l = srtT m := srtT_uniq ((srtT_perm l).trans h) (srtT_pair l)
theorem S_codes (l : List Nat) : (S l).cps.toList = l := by simp [S]
theorem rising_pair : ∀ (p : List Nat) (l : List (List Nat)), risingS (S p) (l.map S) = true → (p :: l).Pairwise (· ≤ ·)
  | p, [], _ => List.pairwise_singleton _ _
  | p, x :: r, h => by
    have h' : (!ltCps (S x).cps.toList (S p).cps.toList && risingS (S x) (r.map S)) = true := h
    rw [Bool.and_eq_true] at h'
    have ih := rising_pair x r h'.2
    have le : p ≤ x := by
      have q := h'.1
      rw [PyProof.Rows.ltCps_eq, Bool.not_eq_true', decide_eq_false_iff_not, S_codes, S_codes] at q
      exact List.not_lt.mp q
    refine List.pairwise_cons.mpr ⟨fun y hy => ?_, ih⟩
    rcases List.mem_cons.mp hy with e | hy
    · rw [e]; exact le
    · exact List.le_trans le ((List.pairwise_cons.mp ih).1 y hy)
theorem sortedS_pair {l : List (List Nat)} (h : sortedS (l.map S) = true) : l.Pairwise (· ≤ ·) := by
  cases l with
  | nil => exact List.Pairwise.nil
  | cons x r => exact rising_pair x r h
theorem perm_S {ys : List Str} {l : List (List Nat)} (h : ys.Perm (l.map S)) : ys = (ys.map fun y => y.cps.toList).map S := by
  rw [List.map_map]
  conv => lhs; rw [← List.map_id ys]
  refine List.map_congr_left fun y _ => ?_
  exact (S_tl y).symm
end Y
namespace Y
open PySem PySem.Spec PyProof.Rows L2 SX Z
section
variable {c : Ct} {ρ : EnvT} {σ : Sg} {e a b : Expr} {pos p p2 : Pos} {x d : DT} {k : DK} {kvs : List (DK × DT)} {Q : DT → Sg → Prop} {E : TX} {D : EndT} {p1 : Pos}
/-- d[k] -/
theorem te_dix (h : TE c a ρ σ (fun x σ1 => TE c b ρ σ1 (fun y σ2 => ∃ kvs k d, DiT σ2 x kvs ∧ y = dk k ∧ dvl kvs k = some d ∧ Q d σ2) E) E) (hs : NoSl b) : TE c (.Subscript a b pos) ρ σ Q E := ⟨fun X hX st H K w r xc Q' fo => by
  have hu := con_room hX
  refine cE_of (pe_dget (by omega) cE_pe cE_pe hs) ?_
  refine h.run X hX st H K w r xc _ fun v x σ1 H1 K1 s1 w1 r1 h1 => ?_
  refine h1.run X hX st H1 K1 w1 (r.same s1.b) (xc.next s1) _ fun u y σ2 H2 K2 s2 w2 r2 ⟨kvs, k, d, hx, ey, hd, q⟩ => ?_
  subst ey
  obtain ⟨p, ws, rfl, q1, ra⟩ := hx.now w2 (r1.same s2.b)
  obtain ⟨vv, e1, e2⟩ := (ra.val k).1 d hd
  exact ⟨p, vv, rfl, .inl ⟨ws, keyD k, q1, r2.key, e1.symm⟩, fo _ _ σ2 H2 K2 (s1.trans s2) w2 e2 q⟩⟩
theorem tv_dix (ha : TV c a ρ σ x) (hb : TV c b ρ σ (dk k)) (hx : DiT σ x kvs) (hd : dvl kvs k = some d) (hs : NoSl b := by exact fun _ _ => rfl) : TV c (.Subscript a b pos) ρ σ d := ⟨fun q => te_dix (ha.to (hb.to ⟨kvs, k, d, hx, rfl, hd, q⟩)) hs⟩
/-- d[k] = v, a dict that may change -/
theorem ts_setItemD (h : TE c e ρ σ (fun v σ1 => TE c a ρ σ1 (fun o σ2 => TE c b ρ σ2 (fun i σ3 => ∃ p kvs k, o = .ref p ∧ i = dk k ∧ σ3 p = some (.dct kvs) ∧ kvs.length < 16777216 ∧ D.nx ρ (su σ3 p (.dct (putT kvs k v)))) (xD D ρ)) (xD D ρ)) (xD D ρ))
    (ha : ∀ env v, assign (.Subscript a b p1) env v = (do
      let ov ← holding [v] (eval a env)
      let iv ← holding [v, ov] (eval b env)
      standAt p1
      holding [v, ov, iv] (setItem ov iv v)
      release [v, ov, iv] []) := by intro _ _; rfl) (hsw : ∀ env, swapsWithSole [.Subscript a b p1] e pos.line env = pure false := by intro _; rfl) (hst : ∀ env, swappedStores [.Subscript a b p1] e env = pure none := by intro _; rfl)
    (has : ∀ env, (assignEach [.Subscript a b p1] env).map (·.2) = [assign (.Subscript a b p1) env] := by intro _; rfl) : TS c (.Assign [.Subscript a b p1] e pos) ρ σ D := ⟨fun X hX st H K w re D' f => by
  have hu := con_room hX
  refine cS_of (ps_asg cE_pe (pg_sub cE_pe cE_pe (set_dict (by omega)) (ha _)) (hsw _) (hst _) (has _)) ?_
  refine h.run X hX st H K w re (f.xc re) _ fun v d σ1 H1 K1 g1 w1 rv h1 => ?_
  refine h1.run X hX st H1 K1 w1 (re.same g1.b) ((f.next g1).xc (re.same g1.b)) _ fun o dO σ2 H2 K2 g2 w2 ro h2 => ?_
  have g12 := g1.trans g2
  refine h2.run X hX st H2 K2 w2 (re.same g12.b) ((f.next g12).xc (re.same g12.b)) _ fun i di σ3 H3 K3 g3 w3 ri ⟨p, kvs, k, e1, e2, e3, e4, q⟩ => ?_
  subst e1 e2
  cases ro
  have g := g12.trans g3
  obtain ⟨vs, e5, ra⟩ := w3.on p _ e3
  refine ⟨p, _, rfl, .inl ⟨vs, keyD k, e5, ri.key, by rw [ra.length, sizeLine_eq]; exact e4, rfl⟩, ?_⟩
  exact f.nx _ _ _ H3 _ (g.trans (Gw.write e3)) (w3.write e3 (c' := .dct (putT kvs k d)) ⟨_, upd_same, ra.put k (rv.same (g2.trans g3).b)⟩) (re.same g.b) q⟩
/-- dict(d): a copy, that may change -/
theorem te_dictD (hg : GlS c "dict") (hm : c.mg "dict" = none) (h : TE c a ρ σ (fun x σ1 => ∃ kvs, DiT σ1 x kvs ∧ ∀ q, σ1 q = none → Q (.ref q) (su σ1 q (.dct kvs))) E)
    (he : ∀ env, starEach [a] env = (false, eval a env) :: starEach [] env := by intro _; rfl) (hpl : ∀ pos env, (backTo pos (starEach [] env)).any (·.1) = false := by intro _ _; rfl) : TE c (.Call (.Name "dict" p) [a] [] pos) ρ σ Q E := ⟨fun X hX st H K w r xc Q' fo => by
  have hX' := hX
  cases hX'
  refine cE_of (pe_callTy call_dictD hg hm (by exact bt_dict) (cA_pa (e := [a])) (by decide) (by decide) (he _) (hpl _ _)) ?_
  refine (ta_cons (QA := fun ds σ1 => ∃ x kvs, ds = [x] ∧ DiT σ1 x kvs ∧ ∀ q, σ1 q = none → Q (.ref q) (su σ1 q (.dct kvs))) (h.imp fun x σ1 ⟨kvs, h1, h2⟩ => ta_nil ⟨x, kvs, rfl, h1, h2⟩) he).run X hX st H K w r xc _ fun vs ds σ1 H1 K1 s1 w1 r1 ⟨x, kvs, ed, hx, q⟩ => ?_
  subst ed
  obtain ⟨u, rfl, ru⟩ := repA_one r1
  obtain ⟨p, ws, rfl, q1, ra⟩ := hx.now w1 ru
  refine ⟨p, ws, rfl, q1, fun z hz => ?_⟩
  exact fo _ _ _ H1 _ (s1.trans (Gw.newC hz)) ((w1.push (o := .dK ws) hz).add (c := .dct kvs) (none_of w1.le hz) ⟨ws, upd_same, ra⟩) (.ref z) (q z (w1.free hz))⟩
end
end Y

/-! Yo: instances of own classes over trees. -/
namespace Y
open PySem PySem.Spec PyProof.Rows L2 SX Z
section
variable {F : PySem.W.Frag} {H : Hp}
theorem RepF.none {x : Str} : ∀ {vs : List (Str × V)} {ds : List (Str × DT)}, RepF F H vs ds → ds.lookup x = none → vs.lookup x = none
  | _, _, .nil, _ => rfl
  | _, _, .cons (k := k) h t, e => by
    rw [List.lookup_cons] at e ⊢
    cases z : x == k with
    | true => rw [z] at e; cases e
    | false => rw [z] at e; exact RepF.none t e
theorem RepF.len : ∀ {vs : List (Str × V)} {ds : List (Str × DT)}, RepF F H vs ds → vs.length = ds.length
  | _, _, .nil => rfl
  | _, _, .cons _ t => congrArg (· + 1) (RepF.len t)
end
/-- what is an instance of C with these fields -/
def ObX (σ : Sg) (x : DT) (C : Addr) (fs : List (Str × DT)) : Prop := x = .obj C fs ∨ ∃ p, x = .ref p ∧ σ p = some (.obj C fs)
theorem ObX.now {F : PySem.W.Frag} {H K : Hp} {σ : Sg} {x : DT} {C : Addr} {fs : List (Str × DT)} {v : V} (l : ObX σ x C fs) (w : Wd F H σ K) (r : Rep F H v x) : ∃ a dx vs, v = .ref a ∧ K a = some (.ins C dx vs) ∧ RepF F H vs fs := by
  rcases l with rfl | ⟨p, rfl, h⟩
  · cases r with
    | obj h1 h2 ra => exact ⟨_, _, _, rfl, w.le _ _ h1, ra⟩
  · cases r
    obtain ⟨dx, vs, h1, _, ra⟩ := w.on p _ h
    exact ⟨p, dx, vs, rfl, h1, ra⟩
/-- a method's promise -/
def DtM (P : Program) (w : World) (F : PySem.W.Frag) (mg : Str → Option Value) (base : Heap) (C : Addr) (m : Str) (ps : List Str) (k : Nat) (spec : TSpec) : Prop := ∃ f fd, Meth F C m f ∧ Binds F fd ps [] ∧ FnG P w F mg base k f fd ps (spT F spec)
/-- an __init__'s promise -/
def DtI (P : Program) (w : World) (F : PySem.W.Frag) (mg : Str → Option Value) (base : Heap) (C : Addr) (ps : List Str) (k : Nat) (spec : TSpec) : Prop := ∃ f fd, Mk F C f ∧ Binds F fd ps [] ∧ FnG P w F mg base k f fd ps (spT F spec)
section
variable {c : Ct} {ρ : EnvT} {σ : Sg} {Q : DT → Sg → Prop} {E : TX} {e a o : Expr} {es : List Expr} {pos p apos : Pos} {d x : DT} {C : Addr} {fs : List (Str × DT)} {f m : Str} {k : Nat} {ps : List Str} {spec : TSpec} {D : EndT}
/-- o.f -/
theorem te_fld (h : TE c e ρ σ (fun x σ1 => ∃ C fs y, ObX σ1 x C fs ∧ Cls c.K C ∧ NoAttr c.K C f ∧ fs.lookup f = some y ∧ Q y σ1) E) (hb : ∀ env, attributeBase e f env (eval e env) = eval e env := by intro _; rfl) : TE c (.Attribute e f pos) ρ σ Q E := ⟨fun X hX st H K w r xc Q' fo => by
  have hX' := hX
  cases hX'
  refine cE_of (pe_fld cE_pe (hb _)) ?_
  refine h.run X hX st H K w r xc _ fun v x σ1 H1 K1 s1 w1 r1 ⟨C, fs, y, ho, hc, hn, hl, q⟩ => ?_
  obtain ⟨a, dx, vs, rfl, ea, ra⟩ := ho.now w1 r1
  obtain ⟨u, l, ru⟩ := ra.lookup hl
  exact ⟨a, C, dx, vs, u, rfl, ea, hc, hn, l, fo _ _ σ1 H1 K1 s1 w1 ru q⟩⟩
theorem tv_fld {y : DT} (ha : TV c e ρ σ x) (ho : ObX σ x C fs) (hc : Cls c.K C) (hn : NoAttr c.K C f) (hl : fs.lookup f = some y) (hb : ∀ env, attributeBase e f env (eval e env) = eval e env := by intro _; rfl) : TV c (.Attribute e f pos) ρ σ y := ⟨fun q => te_fld (ha.to ⟨C, fs, y, ho, hc, hn, hl, q⟩) hb⟩
/-- o.m(e, ..) -/
theorem te_own_m [Calm c] (mt : DtM c.P c.w c.K c.mg c.base C m ps k spec) (hk : k ≤ c.k) (hc : Cls c.K C)
    (h : TE c o ρ σ (fun x σ1 => ∃ fs, x = .obj C fs ∧ fs.lookup m = none ∧ TA c (a :: es) ρ σ1 (fun ds σ2 => spec (.obj C fs :: ds) σ2 Q E) E) E)
    (heq : ∀ env, ∃ pl : Sem Bool, eval (.Call (.Attribute o m apos) (a :: es) [] pos) env = (do
      let ov ← eval o env
      standAt apos.atName
      let (f, first) ← holding [ov] (getMethod ov m pl)
      callWith pos f first (backTo pos (starEach (a :: es) env)) (backToKw pos (keywordEach [] env))))
    (he : ∀ env, starEach (a :: es) env = (false, eval a env) :: starEach es env := by intro _; rfl) (hpl : ∀ pos env, (backTo pos (starEach es env)).any (·.1) = false := by intro _ _; rfl) : TE c (.Call (.Attribute o m apos) (a :: es) [] pos) ρ σ Q E := ⟨fun X hX st H K w r xc Q' fo => fun pins s I => by
  obtain ⟨f, fd, hm, hb, F⟩ := mt
  have hX' := hX
  cases hX' with
  | mk _ k' Wx fl hpp hrH hcf hh hp' ht hf hN hU hst =>
    obtain rfl : hpp = none := ‹Calm _›.h
    obtain ⟨hcc, hr⟩ := hcf rfl
    obtain ⟨pl, heq⟩ := heq X.env
    refine PySem.W.methodCall_KW (pl := pl) (thn (h.run X hX st H K w r xc (fun v K1 => ∃ fs σ1 H1, Gw H σ K H1 σ1 K1 ∧ Wd X.K H1 σ1 K1 ∧ Rep X.K H1 v (.obj C fs) ∧ fs.lookup m = none ∧ TA ⟨X.prog, X.w, X.K, X.mg, X.base, X.N, X.env.scope, k', Wx, fl, none⟩ (a :: es) ρ σ1 (fun ds σ2 => spec (.obj C fs :: ds) σ2 Q E) E)
      (fun v x σ1 H1 K1 s1 w1 r1 ⟨fs, ex, l, hA⟩ => by subst ex; exact ⟨fs, σ1, H1, s1, w1, r1, l, hA⟩) pins s I) fun u s1 ⟨v, K1, I1, rv, fs, σ1, H1, g1, w1, r1, l, hA⟩ => ?_) heq
    cases r1 with
    | @obj ad _ dx vs _ ea ed rf =>
      cases rv
      refine getmeth_ok I1 (w1.le _ _ ea) hc hm (rf.none l) ?_
      refine PySem.W.callWith_K (first := [.ref ad]) (h₀ := X.base) I.ok.mod.kin hm.kp (thn (hA.run X hX st H1 K1 w1 (r.same g1.b) (xc.next g1) (fun vs K2 => ∃ ds σ2 H2, Gw H1 σ1 K1 H2 σ2 K2 ∧ Wd X.K H2 σ2 K2 ∧ RepA X.K H2 vs ds ∧ spec (.obj C fs :: ds) σ2 Q E)
        (fun vs ds σ2 H2 K2 s2 w2 r2 q => ⟨ds, σ2, H2, s2, w2, r2, q⟩) pos pins s1 I1) fun us s2 ⟨vs, K2, I2, rr, ds, σ2, H2, g2, w2, ra, q⟩ => ⟨I2.kIn, ?_⟩) (he _) (hpl _ _)
      exact runG (us := .ref ad :: us) (vs := .ref ad :: vs) F (hr.mono hk) hU ht hb I2 (.cons rfl rr) ⟨.obj C fs :: ds, H2, σ2, Q, E, w2, .cons (Rep.same g2.b (Rep.obj ea ed rf)) ra, q, fun v d σ' H' K' s => fo v d σ' H' K' (g1.trans (g2.trans s)), fun cls dA x σ' H' K' s => xc cls dA x σ' H' K' (g1.trans (g2.trans s))⟩⟩
end
end Y
namespace Y
open PySem PySem.Spec PyProof.Rows L2 SX Z
/-- o.f = v -/
def putFT (f : Str) (d : DT) : List (Str × DT) → List (Str × DT)
  | [] => [(f, d)]
  | (g, x) :: r => if g = f then (g, d) :: r else (g, x) :: putFT f d r
theorem RepF.put {F : PySem.W.Frag} {H : Hp} {f : Str} {v : V} {d : DT} (h : Rep F H v d) : ∀ {vs : List (Str × V)} {ds : List (Str × DT)}, RepF F H vs ds → RepF F H (putF f v vs) (putFT f d ds)
  | _, _, .nil => .cons h .nil
  | _, _, .cons (k := g) r t => by
    unfold putF putFT
    by_cases e : g = f
    · rw [if_pos e, if_pos e]; exact .cons h t
    · rw [if_neg e, if_neg e]; exact .cons r (RepF.put h t)
section
variable {c : Ct} {ρ : EnvT} {σ : Sg} {Q : DT → Sg → Prop} {E : TX} {e a o : Expr} {es : List Expr} {pos p apos : Pos} {d x : DT} {C : Addr} {fs : List (Str × DT)} {f m : Str} {k : Nat} {ps : List Str} {spec : TSpec} {D : EndT}
theorem ts_setFld (h : TE c e ρ σ (fun v σ1 => TE c o ρ σ1 (fun x σ2 => ∃ p C fs, x = .ref p ∧ σ2 p = some (.obj C fs) ∧ Cls c.K C ∧ NoAttr c.K C f ∧ fs.length < 1000 ∧ D.nx ρ (su σ2 p (.obj C (putFT f v fs)))) (xD D ρ)) (xD D ρ))
    (hs : ∀ env, swapsWith e (some (.Attribute o f apos)) pos.line env = pure false := by intro _; rfl) : TS c (.Assign [.Attribute o f apos] e pos) ρ σ D := ⟨fun X hX st H K w re D' g => by
  have hX' := hX
  cases hX'
  refine cS_of (ps_fld cE_pe cE_pe (hs _)) ?_
  refine h.run X hX st H K w re (g.xc re) _ fun v d σ1 H1 K1 g1 w1 rv h1 => ?_
  refine h1.run X hX st H1 K1 w1 (re.same g1.b) ((g.next g1).xc (re.same g1.b)) _ fun x dx σ2 H2 K2 g2 w2 rx ⟨p, C, fs, e1, e2, hc, hn, hl, q⟩ => ?_
  subst e1
  cases rx
  obtain ⟨dd, vs, h3, h4, rf⟩ := w2.on p _ e2
  have ne : p ≠ dd := fun z => by rw [← z, h3] at h4; cases h4
  refine ⟨p, C, dd, vs, rfl, h3, hc, hn, by rw [rf.len]; exact hl, ?_⟩
  exact g.nx _ _ _ H2 _ ((g1.trans g2).trans (Gw.write e2)) (w2.write e2 (c' := .obj C (putFT f d fs)) ⟨dd, _, upd_same, by rw [upd_ne ne.symm]; exact h4, RepF.put (rv.same g2.b) rf⟩) (re.same (g1.trans g2).b) q⟩
/-- C(e, ..): the new instance may change until it is read off -/
theorem te_make [Calm c] {n : Str} (mt : DtI c.P c.w c.K c.mg c.base C ps k spec) (hk : k + 1 ≤ c.k) (hg : GlS c n) (hm : c.mg n = some (.ref C))
    (h : TA c (a :: es) ρ σ (fun ds σ1 => ∀ p, σ1 p = none → spec (.ref p :: ds) (su σ1 p (.obj C [])) (fun v σ2 => v = .non ∧ Q (.ref p) σ2) E) E) (hdb : (n == ("__debug__" : Str)) = false := by decide)
    (he : ∀ env, starEach (a :: es) env = (false, eval a env) :: starEach es env := by intro _; rfl) (hpl : ∀ pos env, (backTo pos (starEach es env)).any (·.1) = false := by intro _ _; rfl) : TE c (.Call (.Name n p) (a :: es) [] pos) ρ σ Q E := ⟨fun X hX st H K w r xc Q' fo => fun pins s I => by
  obtain ⟨f, fd, M, hb, F⟩ := mt
  have hX' := hX
  cases hX' with
  | mk _ k' Wx fl hpp hrH hcf hh hp' ht hf hN hU hst =>
    obtain rfl : hpp = none := ‹Calm _›.h
    obtain ⟨hcc, hr⟩ := hcf rfl
    refine wpAny_Call_Name_kw (ld_glob I hg hm ?_ hdb)
    refine PySem.W.callWith_K (h₀ := X.base) I.ok.mod.kin M.kp (thn (h.run X hX st H K w r xc (fun vs K1 => ∃ ds σ1 H1, Gw H σ K H1 σ1 K1 ∧ Wd X.K H1 σ1 K1 ∧ RepA X.K H1 vs ds ∧ ∀ p, σ1 p = none → spec (.ref p :: ds) (su σ1 p (.obj C [])) (fun v σ2 => v = .non ∧ Q (.ref p) σ2) E)
      (fun vs ds σ1 H1 K1 s1 w1 r1 q => ⟨ds, σ1, H1, s1, w1, r1, q⟩) pos pins _ I) fun us s1 ⟨vs, K1, I1, rr, ds, σ1, H1, g1, w1, ra, q⟩ => ⟨I1.kIn, ?_⟩) (he _) (hpl _ _)
    have n1 : K1 (s1.heap.objs.size + 1) = none := I1.hok.fresh (Nat.le_succ _)
    have n0 : K1 s1.heap.objs.size = none := I1.hok.fresh (Nat.le_refl _)
    have ne : s1.heap.objs.size ≠ s1.heap.objs.size + 1 := Nat.ne_of_lt (Nat.lt_succ_self _)
    have I2 := Inv.made (C := C) I1
    have q2 := q (s1.heap.objs.size + 1) (w1.free n1)
    have w2 := w1.push (o := .own (s1.heap.objs.size + 1)) n0
    have n2 : upd K1 s1.heap.objs.size (.own (s1.heap.objs.size + 1)) (s1.heap.objs.size + 1) = none := by rw [upd_ne ne.symm]; exact n1
    have w3 := (w2.push (o := .ins C s1.heap.objs.size []) n2).add (c := .obj C []) (none_of w1.le n1) ⟨s1.heap.objs.size, [], upd_same, by rw [upd_ne ne]; exact upd_same, .nil⟩
    have g3 := (g1.trans (Gw.push (H := H1) (σ := σ1) (o := .own (s1.heap.objs.size + 1)) n0)).trans (Gw.newC (c := .obj C []) (o := .ins C s1.heap.objs.size []) n2)
    have r2 : Vals (V.ref (s1.heap.objs.size + 1) :: vs) (Value.ref (s1.heap.objs.size + 1) :: us) := .cons rfl rr
    have sp2 : spT X.K spec (V.ref (s1.heap.objs.size + 1) :: vs) (upd (upd K1 s1.heap.objs.size (.own (s1.heap.objs.size + 1))) (s1.heap.objs.size + 1) (.ins C s1.heap.objs.size [])) (fun v K2 => v = .non ∧ Q' (.ref (s1.heap.objs.size + 1)) K2) (WE Wx st) :=
      ⟨.ref (s1.heap.objs.size + 1) :: ds, H1, _, _, E, w3, .cons (.ref _) ra, q2, fun v d σ' H' K' s w' rv ⟨e1, q3⟩ => by
        subst e1
        cases rv
        exact ⟨rfl, fo _ _ σ' H' K' (g3.trans s) w' (.ref _) q3⟩, fun cls dA x σ' H' K' s => xc cls dA x σ' H' K' (g3.trans s)⟩
    have hl : (Value.ref (s1.heap.objs.size + 1) :: us ++ ([] : List Value)).length = ps.length := by
      rw [List.append_nil, ← r2.length]
      exact F.len _ _ _ _ sp2
    have b := hb _ (Value.ref (s1.heap.objs.size + 1) :: us) I2.kIn hl
    rw [List.append_nil] at b
    refine wpAny_call (make_map (f := f) I1.kIn M.makes M.init (beq_iff_eq.mp M.fn) (codeAny_mono (F.calm _ ((hr.mono hk).make C us []) hU X.stack _ _ (I2.env0.make C us []) ⟨Value.ref (s1.heap.objs.size + 1) :: us, []⟩ _ _ r2 b _ _ sp2) fun res s2 z => ?_))
    match res, z with
    | .error er, z => exact L2N.passAt ht st pins _ _ er s2 I2 z
    | .ok (.ret u), z =>
      obtain ⟨v, K3, I3, rv, ev, q3⟩ := I2.after z
      subst ev
      exact ⟨rv, ⟨V.ref (s1.heap.objs.size + 1), K3, I3, rfl, q3⟩⟩
    | .ok .next, z => exact z.elim
    | .ok .brk, z => exact z.elim
    | .ok .cont, z => exact z.elim⟩
end
end Y
namespace Y
open PySem PySem.Spec PyProof.Rows L2 SX Z
section
variable {c : Ct} {ρ : EnvT} {σ : Sg} {Q : DT → Sg → Prop} {E : TX} {e a o : Expr} {es : List Expr} {pos p apos : Pos} {d x : DT} {C : Addr} {fs : List (Str × DT)} {f m : Str} {k : Nat} {ps : List Str} {spec : TSpec} {D : EndT}
theorem tv_make [Calm c] {n : Str} {ds : List DT} (mt : DtI c.P c.w c.K c.mg c.base C ps k spec) (hk : k + 1 ≤ c.k) (hg : GlS c n) (hm : c.mg n = some (.ref C)) (ha : TVA c (a :: es) ρ σ ds)
    (hs : ∀ {Q : DT → Sg → Prop} {E : TX} (p : Addr), σ p = none → Q .non (su σ p (.obj C fs)) → spec (.ref p :: ds) (su σ p (.obj C [])) Q E) (hdb : (n == ("__debug__" : Str)) = false := by decide)
    (he : ∀ env, starEach (a :: es) env = (false, eval a env) :: starEach es env := by intro _; rfl) (hpl : ∀ pos env, (backTo pos (starEach es env)).any (·.1) = false := by intro _ _; rfl) : TV c (.Call (.Name n p) (a :: es) [] pos) ρ σ (.obj C fs) :=
  ⟨fun {Q E} q => te_frz (te_make mt hk hg hm (ha.to fun z hz => hs z hz ⟨rfl, z, _, rfl, su_same, by rw [sd_su hz]; exact q⟩) hdb he hpl)⟩
end
end Y
namespace Y
open PySem PySem.Spec PyProof.Rows L2 SX Z
section
variable {c : Ct} {σ : Sg} {x y d : DT} {C : Addr} {fs gs : List (Str × DT)} {k : Nat} {ps : List Str} {spec : TSpec} {b : Bool} {n : Nat}
end
end Y
namespace Y
open PySem PySem.Spec PyProof.Rows L2 SX Z
/-- the call as code -/
theorem runGc {X : Cx} {W : WX} {k : Nat} {f : Addr} {fd : FuncData} {ps : List Str} {sp : Sp} {pins : List (Addr × Obj)} {st : L2.St} {K : Hp} {s : Shared} {Q : VK} {us : List Value} {vs : List V}
    (F : FnG X.prog X.w X.K X.mg X.base k f fd ps sp) (hr : Room k X.A) (hG : X.A.guards = some []) (tk : L2N.Takes X W) (bs : Binds X.K fd ps []) (I : Inv X pins st K s) (r : Vals vs us) (h : sp vs K Q (WE W st)) {R : Result → Shared → Prop}
    (ho : ∀ u s2, EP X pins st Q u s2 → R (.ok (.ret u)) s2) (hx : ∀ e s2, X.xe e s2 → R (.error e) s2) : codeAny (model X.prog X.w) X.A (.call (.ref f) ⟨us, []⟩) R s := by
  have hl : (us ++ ([] : List Value)).length = ps.length := by
    rw [List.append_nil, ← r.length]
    exact F.len _ _ _ _ h
  have b := bs s us I.kIn hl
  rw [List.append_nil] at b
  refine codeAny_mono (F.calm X.A hr hG X.stack s K I.env0 ⟨us, []⟩ us vs r b Q _ h) fun res s2 z => ?_
  match res, z with
  | .error e, z => exact hx _ _ (L2N.passAt tk st pins K s e s2 I z)
  | .ok (.ret u), z => exact ho _ _ (I.after z)
  | .ok .next, z => exact z.elim
  | .ok .brk, z => exact z.elim
  | .ok .cont, z => exact z.elim
/-- a classmethod's promise: its first argument is the class -/
def DtC (P : Program) (w : World) (F : PySem.W.Frag) (mg : Str → Option Value) (base : Heap) (C : Addr) (m : Str) (ps : List Str) (k : Nat) (spec : TSpec) : Prop := ∃ p g fd mc, ClX.CRead F C mc ∧ ClX.CMet F C mc m p g ∧ Binds F fd ps [] ∧ FnG P w F mg base k g fd ps (spT F spec)
section
variable {c : Ct} {ρ : EnvT} {σ : Sg} {Q : DT → Sg → Prop} {E : TX} {e a o : Expr} {es : List Expr} {pos p apos : Pos} {d x : DT} {C : Addr} {fs : List (Str × DT)} {f m n : Str} {k : Nat} {ps : List Str} {spec : TSpec} {D : EndT}
/-- C.m(e, ..) -/
theorem te_clsm [Calm c] (mt : DtC c.P c.w c.K c.mg c.base C m ps k spec) (hk : k ≤ c.k) (hg : GlS c n) (hm : c.mg n = some (.ref C)) (h : TA c (a :: es) ρ σ (fun ds σ1 => spec (.ref C :: ds) σ1 Q E) E)
    (heq : ∀ env, ∃ pl : Sem Bool, eval (.Call (.Attribute (.Name n p) m apos) (a :: es) [] pos) env = (do
      let ov ← eval (.Name n p) env
      standAt apos.atName
      let (f, first) ← holding [ov] (getMethod ov m pl)
      callWith pos f first (backTo pos (starEach (a :: es) env)) (backToKw pos (keywordEach [] env))))
    (hdb : (n == ("__debug__" : Str)) = false := by decide) (he : ∀ env, starEach (a :: es) env = (false, eval a env) :: starEach es env := by intro _; rfl) (hpl : ∀ pos env, (backTo pos (starEach es env)).any (·.1) = false := by intro _ _; rfl) :
    TE c (.Call (.Attribute (.Name n p) m apos) (a :: es) [] pos) ρ σ Q E := ⟨fun X hX st H K w r xc Q' fo => fun pins s I => by
  obtain ⟨pp, g, fd, mc, hr1, hc1, hb, F⟩ := mt
  have hX' := hX
  cases hX' with
  | mk _ k' Wx fl hpp hrH hcf hh hp' ht hf hN hU hst =>
    obtain rfl : hpp = none := ‹Calm _›.h
    obtain ⟨hcc, hr⟩ := hcf rfl
    obtain ⟨pl, heq⟩ := heq X.env
    refine PySem.W.methodCall_KW (pl := pl) (ld_glob I hg hm ?_ hdb) heq
    refine ClX.getmethcm_ok I hr1 hc1 fun s2 I2 => ?_
    refine ClX.callwith_cm I2 (ClX.base_none I (Nat.le_refl _)) hc1.fi (thn (h.run X hX st H K w r xc (fun vs K1 => ∃ ds σ1 H1, Gw H σ K H1 σ1 K1 ∧ Wd X.K H1 σ1 K1 ∧ RepA X.K H1 vs ds ∧ spec (.ref C :: ds) σ1 Q E)
      (fun vs ds σ1 H1 K1 s1 w1 r1 q => ⟨ds, σ1, H1, s1, w1, r1, q⟩) pos _ s2 I2) fun us s3 ⟨vs, K1, I3, rr, ds, σ1, H1, g1, w1, ra, q⟩ => ⟨⟨ClX.pin_at I3, I3.kIn⟩, ?_⟩) (he _) (hpl _ _)
    refine wpAny_call (PySem.W.method_call (ClX.pin_at I3) ?_)
    refine runGc (vs := .ref C :: vs) F (hr.mono hk) hU ht hb I3 (.cons rfl rr) ⟨.ref C :: ds, H1, σ1, Q, E, w1, .cons (.ref C) ra, q, fun v d σ' H' K' s => fo v d σ' H' K' (g1.trans s), fun cls dA x σ' H' K' s => xc cls dA x σ' H' K' (g1.trans s)⟩ (fun u s4 z => ClX.unpinE z) (fun e s4 z => z)⟩
end
end Y
namespace Y
open PySem PySem.Spec PyProof.Rows L2 SX Z
section
variable {c : Ct} {ρ : EnvT} {σ : Sg} {Q : DT → Sg → Prop} {E : TX} {e a o : Expr} {es : List Expr} {pos p apos : Pos} {d x : DT} {C : Addr} {fs : List (Str × DT)} {f m : Str} {k : Nat} {ps : List Str} {spec : TSpec} {D : EndT}
/-- x(e, ..), x a name that holds the class -/
theorem te_makeL [Calm c] {n : Str} (mt : DtI c.P c.w c.K c.mg c.base C ps k spec) (hk : k + 1 ≤ c.k) (hl0 : lkT c.N ρ n = some (.ref C)) (hv0 : visB c.sc n = true)
    (h : TA c (a :: es) ρ σ (fun ds σ1 => ∀ p, σ1 p = none → spec (.ref p :: ds) (su σ1 p (.obj C [])) (fun v σ2 => v = .non ∧ Q (.ref p) σ2) E) E) (hdb : (n == ("__debug__" : Str)) = false := by decide) (hcd : (n == ("__classdict__" : Str)) = false := by decide)
    (he : ∀ env, starEach (a :: es) env = (false, eval a env) :: starEach es env := by intro _; rfl) (hpl : ∀ pos env, (backTo pos (starEach es env)).any (·.1) = false := by intro _ _; rfl) : TE c (.Call (.Name n p) (a :: es) [] pos) ρ σ Q E := ⟨fun X hX st H K w r xc Q' fo => fun pins s I => by
  obtain ⟨f, fd, M, hb, F⟩ := mt
  have hX' := hX
  cases hX' with
  | mk _ k' Wx fl hpp hrH hcf hh hp' ht hf hN hU hst =>
    obtain rfl : hpp = none := ‹Calm _›.h
    obtain ⟨hcc, hr⟩ := hcf rfl
    have ld := ((tv_nm (pos := p) hl0 hv0 hdb hcd).to (Q := fun d σ' => d = .ref C ∧ σ' = σ) (E := E) ⟨rfl, rfl⟩).run X hX st H K w r xc (fun v K1 => v = .ref C ∧ ∃ H1, Gw H σ K H1 σ K1 ∧ Wd X.K H1 σ K1) (fun v d σ1 H1 K1 s1 w1 r1 ⟨e1, e2⟩ => by subst e1 e2; cases r1; exact ⟨rfl, H1, s1, w1⟩) pins s I
    refine wpAny_Call_Name_kw (thn ld fun uc sc ⟨vc, Kc, Ic, rc, ec, Hc, gc, wc⟩ => ?_)
    subst ec
    cases rc
    refine PySem.W.callWith_K (h₀ := X.base) I.ok.mod.kin M.kp (thn (h.run X hX st Hc Kc wc (r.same gc.b) (xc.next gc) (fun vs K1 => ∃ ds σ1 H1, Gw Hc σ Kc H1 σ1 K1 ∧ Wd X.K H1 σ1 K1 ∧ RepA X.K H1 vs ds ∧ ∀ p, σ1 p = none → spec (.ref p :: ds) (su σ1 p (.obj C [])) (fun v σ2 => v = .non ∧ Q (.ref p) σ2) E)
      (fun vs ds σ1 H1 K1 s1 w1 r1 q => ⟨ds, σ1, H1, s1, w1, r1, q⟩) pos pins _ Ic) fun us s1 ⟨vs, K1, I1, rr, ds, σ1, H1, g1, w1, ra, q⟩ => ⟨I1.kIn, ?_⟩) (he _) (hpl _ _)
    have n1 : K1 (s1.heap.objs.size + 1) = none := I1.hok.fresh (Nat.le_succ _)
    have n0 : K1 s1.heap.objs.size = none := I1.hok.fresh (Nat.le_refl _)
    have ne : s1.heap.objs.size ≠ s1.heap.objs.size + 1 := Nat.ne_of_lt (Nat.lt_succ_self _)
    have I2 := Inv.made (C := C) I1
    have q2 := q (s1.heap.objs.size + 1) (w1.free n1)
    have w2 := w1.push (o := .own (s1.heap.objs.size + 1)) n0
    have n2 : upd K1 s1.heap.objs.size (.own (s1.heap.objs.size + 1)) (s1.heap.objs.size + 1) = none := by rw [upd_ne ne.symm]; exact n1
    have w3 := (w2.push (o := .ins C s1.heap.objs.size []) n2).add (c := .obj C []) (none_of w1.le n1) ⟨s1.heap.objs.size, [], upd_same, by rw [upd_ne ne]; exact upd_same, .nil⟩
    have g3 := (g1.trans (Gw.push (H := H1) (σ := σ1) (o := .own (s1.heap.objs.size + 1)) n0)).trans (Gw.newC (c := .obj C []) (o := .ins C s1.heap.objs.size []) n2)
    have r2 : Vals (V.ref (s1.heap.objs.size + 1) :: vs) (Value.ref (s1.heap.objs.size + 1) :: us) := .cons rfl rr
    have sp2 : spT X.K spec (V.ref (s1.heap.objs.size + 1) :: vs) (upd (upd K1 s1.heap.objs.size (.own (s1.heap.objs.size + 1))) (s1.heap.objs.size + 1) (.ins C s1.heap.objs.size [])) (fun v K2 => v = .non ∧ Q' (.ref (s1.heap.objs.size + 1)) K2) (WE Wx st) :=
      ⟨.ref (s1.heap.objs.size + 1) :: ds, H1, _, _, E, w3, .cons (.ref _) ra, q2, fun v d σ' H' K' s w' rv ⟨e1, q3⟩ => by
        subst e1
        cases rv
        exact ⟨rfl, fo _ _ σ' H' K' ((gc.trans g3).trans s) w' (.ref _) q3⟩, fun cls dA x σ' H' K' s => xc cls dA x σ' H' K' ((gc.trans g3).trans s)⟩
    have hl : (Value.ref (s1.heap.objs.size + 1) :: us ++ ([] : List Value)).length = ps.length := by
      rw [List.append_nil, ← r2.length]
      exact F.len _ _ _ _ sp2
    have b := hb _ (Value.ref (s1.heap.objs.size + 1) :: us) I2.kIn hl
    rw [List.append_nil] at b
    refine wpAny_call (make_map (f := f) I1.kIn M.makes M.init (beq_iff_eq.mp M.fn) (codeAny_mono (F.calm _ ((hr.mono hk).make C us []) hU X.stack _ _ (I2.env0.make C us []) ⟨Value.ref (s1.heap.objs.size + 1) :: us, []⟩ _ _ r2 b _ _ sp2) fun res s2 z => ?_))
    match res, z with
    | .error er, z => exact L2N.passAt ht st pins _ _ er s2 I2 z
    | .ok (.ret u), z =>
      obtain ⟨v, K3, I3, rv, ev, q3⟩ := I2.after z
      subst ev
      exact ⟨rv, ⟨V.ref (s1.heap.objs.size + 1), K3, I3, rfl, q3⟩⟩
    | .ok .next, z => exact z.elim
    | .ok .brk, z => exact z.elim
    | .ok .cont, z => exact z.elim⟩
end
end Y
namespace PySem.W
open PySem PySem.Spec PySem.Calls PyProof.Rows
/-- a plain class with an == of its own and no != -/
def ownB (K : Frag) (C : Addr) : Bool := (match K.lookup C with
  | some ⟨.type "type", _, .cls ⟨_, _, [.ref C', .type "object"], N, _, _, _, _, _, _, false⟩, ⟨[_, _, _, _, some (.builtin _), _]⟩⟩ => C' == C && (nsOkIn K N && (nsIn K N "__eq__" == findIn K (.ref C) "__eq__" && nsIn K N "__ne__" == some none))
  | _ => false)
end PySem.W
namespace Y
open PySem PySem.Spec PyProof.Rows L2 SX Z
section
variable {c : Ct} {σ : Sg} {x y d : DT} {C : Addr} {fs gs : List (Str × DT)} {k : Nat} {ps : List Str} {spec : TSpec} {b : Bool} {n : Nat}
end
end Y

/-! Yq: == of dicts whose values are ints. -/
namespace Y
open PySem PySem.Spec PyProof.Rows L2 SX Z
abbrev CK := List (DK × Int)
/-- the tree of a tally -/
def iD (ks : CK) : List (DK × DT) := ks.map fun p => (p.1, .int p.2)
def ivl (ks : CK) (k : DK) : Option Int := (ks.find? fun p => decide (p.1 = k)).map (·.2)
theorem dvl_iD (k : DK) : ∀ ks : CK, dvl (iD ks) k = (ivl ks k).map DT.int
  | [] => rfl
  | p :: r => by
    have ih := dvl_iD k r
    unfold iD dvl ivl at *
    rw [List.map_cons, List.find?_cons, List.find?_cons]
    by_cases e : p.1 = k
    · simp [e]
    · simp only [e, decide_false]
      exact ih
section
variable {F : PySem.W.Frag} {H : Hp}
end
section
variable {c : Ct} {σ : Sg} {x y : DT} {ks ls : CK}
end
end Y

/-! Ys: sorted of a dict with texts as keys, any number of them. -/
namespace Y
open PySem PySem.Spec PyProof.Rows L2 SX Z
def rSortedDA : List V → Hp → VK → Prop := fun xs H Q => ∃ (a : Addr) (kvs : List (Key × V)) (ks : List Str), xs = [.ref a] ∧ Rd H a (.dK kvs) ∧ kvs.map (·.1) = ks.map Sum.inr ∧ ∀ ys p, ys.Perm ks → sortedS ys = true → H p = none → Q (.ref p) (upd H p (.lst (ys.map V.str)))
/-- the keys' values are the texts -/
theorem keys_strs {vs : List (Key × Value)} {ks : List Str} {us : List Value} (hk : vs.map (·.1) = ks.map Sum.inr) (hl : us.length = ks.length) (h : ∀ (j : Nat) (v : Value), us[j]? = some v → ∃ (k : Key) (x : Value), vs[j]? = some (k, x) ∧ keyIs k v = true) : StrsAre us ks :=
  strs_at hl fun j v e => by
    obtain ⟨k, x, a, b⟩ := h j v e
    have c : (ks.map Sum.inr)[j]? = some k := by rw [← hk, List.getElem?_map, a]; rfl
    rw [List.getElem?_map] at c
    obtain ⟨y, c1, c2⟩ := Option.map_eq_some_iff.mp c
    rw [← c2] at b
    obtain ⟨t, q⟩ := Value.isStrOf_shape (x := y) (v := v) b
    exact ⟨y, t, c1, q⟩
theorem cr_sortedDA {X : Cx} (hcalm : X.calm = true ∨ L2H.HotC X) : CallR X (.builtin "sorted") rSortedDA := by
  rintro pins s st H xs us Q I r ⟨a, kvs, ks, rfl, hd, hks, q⟩
  obtain ⟨u, rfl, ru⟩ := vals1 r
  cases ru
  obtain ⟨z, lo, vs, rel, dd⟩ := dk_rd I.hok hd
  obtain ⟨ep, hat⟩ := dd.dictAt
  have hk2 : vs.map (·.1) = ks.map Sum.inr := by rw [← rel.keys]; exact hks
  have n1 : vs.length = ks.length := by simpa using congrArg List.length hk2
  have n2 : ks.length ≤ sizeLine := by rw [← n1, ← rel.length]; exact z
  refine Calls.call_function_entry kind_sorted plain_sorted entry_sorted (args_sorted1 _) ?_
  unfold Builtin.«sorted»
  refine wpAny_bind (m := checkCount "sorted" 1 1 _) (wpAny_pure (wpAny_bind (HotX.collectK (A := X.A.in1) (knd := mixKind X.prog X.w) (kvs := vs) (ep := ep) lo (HotX.handK_of hcalm I) hat (by rw [n1]; exact n2) fun h' tk acc hk hacc => ?_)))
  have n3 : acc.toList.length = ks.length := by rw [Array.length_toList, hacc.1, n1]
  have hS := keys_strs hk2 n3 fun j v e => hacc.2 j v (by rw [← Array.getElem?_toList]; exact e)
  have I1 : Inv X pins st H { s with heap := h', toks := tk } := I.kept hk
  refine wpAny_bind (wpAny_newList ?_ (by rw [n3]; exact n2))
  have top : (h'.push (seqObj "list" acc.toList.toArray 0)).get? h'.objs.size = some (seqObj "list" acc.toList.toArray 0) := Heap.get?_push_size _ rfl
  refine wpAny_bind (wpAny_holding (wpAny_call_entry slot_list_sort (s := { s with heap := h'.push (seqObj "list" acc.toList.toArray 0), toks := tk }) ⟨_, top, rfl⟩ entry_list_sort
    (list_sort_treeKAny strKind_oneLt (s := { s with heap := h'.push (seqObj "list" acc.toList.toArray 0), toks := tk }) top hS.keysOf (fun w1 w2 rest e => keyKind_strs (by rw [← e]; exact hS)) (by rw [n3]; exact n2) fun st' hp hs => ⟨_, rfl, ?_⟩) (args_list_sort _)))
  obtain ⟨ys, g1, g2, g3⟩ := sorted_out_str hS hp hs
  obtain ⟨e1, at1⟩ := sortedHeap_at (vs := acc.toList) (out := (arrOf st').map (·.2)) top
  have n4 : (ys.map V.str).length ≤ sizeLine := by rw [List.length_map, g2.length_eq]; exact n2
  refine wpAny_pure ⟨_, rfl, .ref h'.objs.size, _, I1.laid (o := .lst (ys.map V.str)) (t' := tk) (fun b u e => ?_) (Nat.le_refl _) ⟨n4, ((arrOf st').map (·.2)).toList, e1, vals_of_strs g1, by rw [Array.toArray_toList]; exact at1⟩, rfl, q ys _ g2 g3 (I1.hok.fresh (Nat.le_refl _))⟩
  have lt : b < h'.objs.size := Heap.lt_size e
  rw [sortedHeap_old (Nat.ne_of_lt lt) (by rw [size_push']; exact Nat.lt_succ_of_lt lt)]
  exact Heap.get?_push_of_some _ e
/-- sorted(d) -/
theorem pf_sortedDT {c : Ct} {σ : Sg} {x : DT} {kvs : List (DK × DT)} {l : List (List Nat)} (hx : DiT σ x kvs) (hk : kvs.map (·.1) = l.map Sum.inr) : POF c (.builtin "sorted") [x] σ (.lst ((srtT l).map DT.str)) := ⟨fun X hX H K w vs r Q q => by
  have hc := con_any hX
  cases hX
  obtain ⟨u, rfl, ru⟩ := repA_one r
  obtain ⟨a, ws, rfl, q1, r1⟩ := hx.now w ru
  have hk2 : ws.map (·.1) = (l.map S).map Sum.inr := by
    have a1 : ∀ {ws : List (Key × V)} {kvs : List (DK × DT)}, RepK X.K H ws kvs → ws.map (·.1) = kvs.map fun p => keyD p.1 := by
      intro ws kvs r
      induction kvs generalizing ws with
      | nil => cases r; rfl
      | cons p ps ih => cases r with | cons h t => rw [List.map_cons, List.map_cons, ih t]
    have a2 : (kvs.map fun p => keyD p.1) = (kvs.map (·.1)).map keyD := by rw [List.map_map]; rfl
    rw [a1 r1, a2, hk, List.map_map, List.map_map]
    rfl
  refine cF_of (cr_sortedDA hc) ⟨a, ws, l.map S, rfl, q1, hk2, fun ys p h1 h2 hp => ?_⟩
  have e2 := perm_S h1
  have e3 : (ys.map fun y => y.cps.toList).Perm l := by
    have := h1.map (fun y : Str => y.cps.toList)
    rw [List.map_map] at this
    have e : (l.map ((fun y : Str => y.cps.toList) ∘ S)) = l := by
      conv => rhs; rw [← List.map_id l]
      exact List.map_congr_left fun y _ => S_codes y
    rwa [e] at this
  have e4 := srtT_uniq e3 (sortedS_pair (by rw [← e2]; exact h2))
  obtain ⟨s2, w2⟩ := w.new (o := .lst (ys.map V.str)) hp
  refine q _ _ _ s2 w2 (.lst upd_same ?_)
  rw [e2, e4, List.map_map]
  exact repA_of _ DT.str (fun z => .str z) (srtT l)⟩
end Y
namespace Y
open PySem PySem.Spec L2 SX Z
theorem putT_new {acc : List (DK × DT)} {k : DK} {y : DT} (h : k ∉ acc.map (·.1)) : putT acc k y = acc ++ [(k, y)] := by
  unfold putT
  rw [if_neg]
  rw [List.any_eq_true]
  rintro ⟨e, he, hk⟩
  exact h (List.mem_map.mpr ⟨e, he, of_decide_eq_true hk⟩)
section
variable {c : Ct} {ρ : EnvT} {σ : Sg} {tg iter kx vx : Expr} {scope : Scope} {pos : Pos} {own : List (Str × Nat)} {t : TgS}
/-- {k: v for ..}, the keys distinct -/
theorem tv_dc {α : Type} {l : List α} {g vf : α → DT} {kf : α → DK} {ρ' : α → EnvT} (htg : TgOk (c.blk scope) tg t) (hb : blkC c.N c.sc scope own = true) (hsub : ∀ j ∈ t.slots, j ∈ own.map (·.2)) (hi : TVI c tg iter ρ σ (l.map g)) (hn : l.length ≤ 1000000)
    (hst : ∀ a ∈ l, stT t (g a) (wipeT ρ (own.map (·.2))) = some (ρ' a)) (hs : ∀ a ∈ l, TV (c.blk scope) kx (ρ' a) σ (dk (kf a)) ∧ TV (c.blk scope) vx (ρ' a) σ (vf a)) (hnd : (l.map kf).Nodup) (hf : ∀ env x, foldedSetIterable iter env x = pure x := by intro _ _; rfl) :
    TV c (.DictComp kx vx [⟨tg, iter, [], 0⟩] scope pos) ρ σ (.dct (l.map fun a => (kf a, vf a))) := ⟨fun {Q E} q => te_frz (te_dcC htg hb hsub (hi.to ⟨by rw [List.length_map]; exact hn, fun i acc σ2 => σ2 = σ ∧ acc = (l.take i).map fun a => (kf a, vf a), ⟨rfl, by simp⟩, fun i d acc σ2 hd ⟨e1, e2⟩ => by
    subst e1 e2
    rw [List.getElem?_map] at hd
    obtain ⟨a, ha, rfl⟩ := Option.map_eq_some_iff.mp hd
    have hm : a ∈ l := List.mem_of_getElem? ha
    have hlt : i < l.length := (List.getElem?_eq_some_iff.mp ha).1
    have tk : l.take (i + 1) = l.take i ++ [a] := by rw [List.take_succ, ha]; rfl
    refine ⟨ρ' a, hst a hm, ?_⟩
    have hnk : kf a ∉ ((l.take i).map fun a => (kf a, vf a)).map (·.1) := by
      rw [List.map_map]
      intro hk
      have q1 : (l.map kf)[i]? = some (kf a) := by rw [List.getElem?_map, ha]; rfl
      obtain ⟨j, hj⟩ := List.mem_iff_getElem?.mp hk
      rw [List.getElem?_map, List.getElem?_take] at hj
      split at hj
      · next hji =>
        have q2 : (l.map kf)[j]? = some (kf a) := by rw [List.getElem?_map]; exact hj
        have := (List.getElem?_inj (by rw [List.length_map]; omega) hnd).mp (q2.trans q1.symm)
        omega
      · cases hj
    show TE _ _ _ _ _ _
    exact (hs a hm).1.to ⟨kf a, rfl, (hs a hm).2.to ⟨rfl, by rw [putT_new hnk, tk, List.map_append]; rfl⟩⟩, fun D acc σ2 hD _ ⟨e1, e2⟩ => by
    subst e1 e2
    refine ⟨D, _, rfl, su_same, ?_⟩
    rw [sd_su hD, List.take_of_length_le (by rw [List.length_map]; exact Nat.le_refl _)]
    exact q⟩) hf)⟩
end
end Y

/-! Yu: dict of a list of pairs. -/
namespace Y
open PySem PySem.Spec PyProof.Rows L2 SX Z
theorem pairs_rep {F : PySem.W.Frag} {H K : Hp} (s : Same H K) : ∀ (l : List (DK × DT)) (vs : List V), RepA F H vs (l.map fun p => .tup [dk p.1, p.2]) → ∃ (ps : List Addr) (kvs : List (Key × V)), vs = ps.map V.ref ∧ Paired (fun p kv => SqT F K p [kV kv.1, kv.2]) ps kvs ∧ RepK F H kvs l
  | [], _, r => by
    cases r
    exact ⟨[], [], rfl, .nil, .nil⟩
  | (k, d) :: l, _, r => by
    cases r with
    | cons h t =>
      obtain ⟨ps, kvs, rfl, hp, rk⟩ := pairs_rep s l _ t
      cases h with
      | @tup a ws _ hs ra =>
        obtain ⟨x, y, rfl, rx, ry⟩ := repA_two ra
        have ek := rx.key
        subst ek
        exact ⟨a :: ps, (keyD k, y) :: kvs, rfl, .cons (same_sqt s hs) hp, .cons ry rk⟩
theorem RepK.merge {F : PySem.W.Frag} {H : Hp} : ∀ (l acc : List (DK × DT)) (kvs va : List (Key × V)), RepK F H kvs l → RepK F H va acc → RepK F H (mergeK va kvs) (l.foldl (fun a p => putT a p.1 p.2) acc)
  | [], _, _, _, r, ra => by
    cases r
    exact ra
  | (k, d) :: l, acc, _, va, r, ra => by
    cases r with
    | @cons _ v vs _ _ h t => exact RepK.merge l (putT acc k d) vs (putK va (keyD k) v) t (RepK.put ra k h)
theorem fold_nd : ∀ (l acc : List (DK × DT)), ((acc ++ l).map (·.1)).Nodup → l.foldl (fun a p => putT a p.1 p.2) acc = acc ++ l
  | [], acc, _ => by simp
  | p :: l, acc, h => by
    rw [List.foldl_cons]
    have hk : p.1 ∉ acc.map (·.1) := fun z => by
      rw [List.map_append, List.map_cons, List.nodup_append] at h
      exact h.2.2 p.1 z p.1 List.mem_cons_self rfl
    rw [putT_new hk, fold_nd l (acc ++ [(p.1, p.2)]) (by rw [List.append_assoc]; exact h), List.append_assoc]
    rfl
section
variable {c : Ct} {ρ : EnvT} {σ : Sg} {a : Expr} {pos p : Pos} {l : List (DK × DT)} {Q : DT → Sg → Prop} {E : TX}
theorem te_dictP [Calm c] (hg : GlS c "dict") (hm : c.mg "dict" = none) (h : TE c a ρ σ (fun x σ1 => ∃ l : List (DK × DT), LsT σ1 x (l.map fun p => .tup [dk p.1, p.2]) ∧ (l.map (·.1)).Nodup ∧ ∀ q, σ1 q = none → Q (.ref q) (su σ1 q (.dct l))) E)
    (he : ∀ env, starEach [a] env = (false, eval a env) :: starEach [] env := by intro _; rfl) (hpl : ∀ pos env, (backTo pos (starEach [] env)).any (·.1) = false := by intro _ _; rfl) : TE c (.Call (.Name "dict" p) [a] [] pos) ρ σ Q E := ⟨fun X hX st H K w r xc Q' fo => by
  have hc := con_calm hX
  have hX' := hX
  cases hX'
  refine cE_of (pe_callTy (call_dictP hc) hg hm (by exact bt_dict) (cA_pa (e := [a])) (by decide) (by decide) (he _) (hpl _ _)) ?_
  refine (ta_cons (QA := fun ds σ1 => ∃ x l, ds = [x] ∧ LsT σ1 x (l.map fun p : DK × DT => .tup [dk p.1, p.2]) ∧ (l.map (·.1)).Nodup ∧ ∀ q, σ1 q = none → Q (.ref q) (su σ1 q (.dct l))) (h.imp fun x σ1 ⟨l, h1, h2, h3⟩ => ta_nil ⟨x, l, rfl, h1, h2, h3⟩) he).run X hX st H K w r xc _ fun vs ds σ1 H1 K1 s1 w1 r1 ⟨x, l, ed, hx, nd, q⟩ => ?_
  subst ed
  obtain ⟨u, rfl, ru⟩ := repA_one r1
  obtain ⟨b, ws, rfl, q1, ra⟩ := hx.now w1 ru
  obtain ⟨ps, kvs, rfl, hp, rk⟩ := pairs_rep w1.le l ws ra
  refine ⟨b, ps, kvs, rfl, q1, hp, fun z hz => ?_⟩
  have rm := RepK.merge l [] kvs [] rk .nil
  rw [fold_nd l [] nd, List.nil_append] at rm
  exact fo _ _ _ H1 _ (s1.trans (Gw.newC hz)) ((w1.push (o := .dK (mergeK [] kvs)) hz).add (c := .dct l) (none_of w1.le hz) ⟨_, upd_same, rm⟩) (.ref z) (q z (w1.free hz))⟩
theorem tv_dictP [Calm c] {x : DT} (hg : GlS c "dict") (hm : c.mg "dict" = none) (ha : TV c a ρ σ x) (hx : LsT σ x (l.map fun p => .tup [dk p.1, p.2])) (nd : (l.map (·.1)).Nodup) (he : ∀ env, starEach [a] env = (false, eval a env) :: starEach [] env := by intro _; rfl) : TV c (.Call (.Name "dict" p) [a] [] pos) ρ σ (.dct l) :=
  ⟨fun {Q E} q => te_frz (te_dictP hg hm (ha.to ⟨l, hx, nd, fun z hz => ⟨z, _, rfl, su_same, by rw [sd_su hz]; exact q⟩⟩) he)⟩
end
end Y

/-! Yv: sum(d.values()), ints that are not great. -/
namespace Y
open PySem PySem.Spec PyProof.Rows L2 SX Z
def tSumVals (td : L2.TE) : L2.TE := fun st H Q => td st H fun x H1 => ∃ (a : Addr) (kvs : List (Key × V)) (is : List Int), x = V.ref a ∧ Rd H1 a (.dK kvs) ∧ kvs.map (·.2) = is.map V.int ∧ (∀ i ∈ is, 0 ≤ i) ∧ is.sum < 2 ^ 62 ∧ Q (.int is.sum) H1
theorem take_sum {is : List Int} (h : ∀ i ∈ is, 0 ≤ i) (j : Nat) : 0 ≤ (is.take j).sum ∧ (is.take j).sum ≤ is.sum := by
  induction is generalizing j with
  | nil => simp
  | cons x xs ih =>
    have h1 := h x List.mem_cons_self
    have h2 := ih (fun i hi => h i (List.mem_cons_of_mem _ hi))
    cases j with
    | zero =>
      have := (h2 xs.length)
      rw [List.take_length] at this
      simp only [List.take_zero, List.sum_nil, List.sum_cons]
      omega
    | succ j =>
      have := h2 j
      simp only [List.take_succ_cons, List.sum_cons]
      omega
theorem pe_sumVals {X : Cx} {o : Expr} {p pos apos mpos : Pos} {td : L2.TE} (hc : X.calm = true) (hg : Gl X "sum") (hm : X.mg "sum" = none) (hd : PE X o td) (hbase : attributeBase o "values" X.env (eval o X.env) = eval o X.env) (hline : (apos.endLine == mpos.line) = true)
    (hse : starEach [Expr.Call (.Attribute o "values" apos) [] [] mpos] X.env = [(false, eval (Expr.Call (.Attribute o "values" apos) [] [] mpos) X.env)]) : PE X (.Call (.Name "sum" p) [.Call (.Attribute o "values" apos) [] [] mpos] [] pos) (tSumVals td) := by
  refine ⟨fun pins s st H Q I h => wpAny_Call_Name_kw (ld_blt I hg hm (u := .builtin "sum") bt_sum ?_ (by decide) (by decide))⟩
  rw [hse]
  refine PySem.callWith_builtin1 (wpAny_Call_method0_late hbase hline (thn (hd.run pins s st H _ I h) fun v s1 ⟨x, H1, I1, r1, a, kvs, is, ex, ha, hv, hpos, hbig, q⟩ => ?_))
  subst ex
  cases r1
  obtain ⟨_, hsys, vs, rel, dof⟩ := dk_rd I1.hok ha
  obtain ⟨ep, dat⟩ := dof.dictAt
  obtain ⟨ob, es, ho, ex, hdat, hko, hpr, hnd⟩ := id dat
  refine ⟨"dict", "dict.values", F.plainAttrs_dict, F.slot_dict_values, F.type_dict_values, ⟨ob, ho, ex.1⟩, fun b e => by cases e; exact ⟨ob, ho, ex.2.1⟩, Calls.callWith_builtin rfl (PySem.evalArgs_none ?_)⟩
  refine call_meetsIn F.slot_dict_values ⟨ob, ho, ex.1⟩ F.entry_dict_values (F.args_dict_values_1 _) (meets_dict_values (mixKind X.prog X.w) a hsys) ⟨⟨vs, dof⟩, ?_⟩
  have lay : ∀ b u, s1.heap.get? b = some u → (s1.heap.push { cls := .type "dict_values", data := .fields #[.ref a] }).get? b = some u := fun b u e => Heap.get?_push_of_some _ e
  have dat1 := dat.keep lay
  have n1 : vs.length = is.length := by rw [← KV.length rel]; simpa using congrArg List.length hv
  have val : ∀ (i : Nat) (v : Value), (∃ k, vs[i]? = some (k, v)) → ∃ t, v = Value.int (is.getD i 0) t := by
    rintro i v ⟨k, hk⟩
    obtain ⟨x, h1, h2⟩ := KV.at' rel hk
    have e1 : (is.map V.int)[i]? = some x := by rw [← hv, List.getElem?_map, h1]; rfl
    rw [List.getElem?_map] at e1
    obtain ⟨j, hj, rfl⟩ := Option.map_eq_some_iff.mp e1
    obtain ⟨t, rfl⟩ := (show ∃ t, v = Value.int j t from h2)
    exact ⟨t, by rw [List.getD_eq_getElem?_getD, hj]; rfl⟩
  have bnd := take_sum hpos
  have lt : a < s1.heap.objs.size := Heap.lt_size ho
  have sz : (s1.heap.push { cls := .type "dict_values", data := .fields #[.ref a] }).objs.size = s1.heap.objs.size + 1 := Heap.size_push _ _
  refine call_sum_walk (wpAny_pyIter_values (v := s1.heap.objs.size) (d := a) ⟨_, Heap.get?_push_size _ rfl, rfl, rfl⟩ dat1 ?_)
  refine ⟨_, _, _, _, _, _, fun i => is.getD i 0, rfl, Walks.dictValues (knd := mixKind X.prog X.w) (A := X.A.in1) (I.ok.hd hc) (s1.heap.push { cls := .type "dict_values", data := .fields #[.ref a] }).objs.size a (by rw [sz]; exact Nat.ne_of_lt (Nat.lt_succ_of_lt lt)) vs ep,
    ⟨⟨_, Heap.get?_push_size _ rfl, rfl, rfl⟩, dat1.keep fun b u e => Heap.get?_push_of_some _ e⟩, fun b hb => ?_, val, fun j hj => ?_, fun h' tk t' hk => ?_⟩
  · show b < ((s1.heap.push _).push _).objs.size
    rw [Heap.size_push, Heap.size_push]
    rw [sz] at hb
    rcases List.mem_cons.mp hb with e | hb
    · exact e ▸ Nat.lt_succ_self _
    · exact List.mem_singleton.mp hb ▸ Nat.lt_succ_of_lt (Nat.lt_succ_of_lt lt)
  · have a1 := bnd (j + 1)
    have a2 : is.getD j 0 ∈ is := by
      rw [List.getD_eq_getElem?_getD, List.getElem?_eq_getElem (by omega)]
      exact List.getElem_mem _
    have a3 := hpos _ a2
    have a4 := bnd j
    have a5 : preSum (fun i => is.getD i 0) (j + 1) = (is.take (j + 1)).sum := preSum_getD is (j + 1)
    have a6 : preSum (fun i => is.getD i 0) j = (is.take j).sum := preSum_getD is j
    have a7 : preSum (fun i => is.getD i 0) (j + 1) = preSum (fun i => is.getD i 0) j + is.getD j 0 := rfl
    unfold InLong
    dsimp only
    rw [a5]
    rw [a5, a6] at a7
    refine ⟨⟨by omega, by omega⟩, by omega, by omega⟩
  · have e : preSum (fun i => is.getD i 0) vs.length = is.sum := by rw [preSum_getD, n1, List.take_length]
    rw [e]
    refine ⟨.int is.sum, H1, I1.kept (t' := tk) fun b u z => hk b u (fun hmem => ?_) (Heap.get?_push_of_some _ (lay b u z)), ⟨t', rfl⟩, q⟩
    have e1 := List.mem_singleton.mp hmem
    have e2 := Heap.lt_size z
    rw [sz] at e1
    rw [e1] at e2
    exact absurd e2 (Nat.not_lt.mpr (Nat.le_succ _))
section
variable {c : Ct} {ρ : EnvT} {σ : Sg} {o : Expr} {p pos apos mpos : Pos} {x : DT} {ks : CK}
theorem tv_sumV [Calm c] (hg : GlS c "sum") (hm : c.mg "sum" = none) (ho : TV c o ρ σ x) (hx : DiT σ x (iD ks)) (hp : ∀ q ∈ ks, 0 ≤ q.2) (hs : (ks.map (·.2)).sum < 2 ^ 62) (hbase : ∀ env, attributeBase o "values" env (eval o env) = eval o env := by intro _; rfl) (hline : (apos.endLine == mpos.line) = true := by rfl)
    (hse : ∀ env, starEach [Expr.Call (.Attribute o "values" apos) [] [] mpos] env = [(false, eval (Expr.Call (.Attribute o "values" apos) [] [] mpos) env)] := by intro _; rfl) : TV c (.Call (.Name "sum" p) [.Call (.Attribute o "values" apos) [] [] mpos] [] pos) ρ σ (.int (ks.map (·.2)).sum) := ⟨fun {Q E} q => ⟨fun X hX st H K w r xc Q' fo => by
  have hc := con_calm hX
  have hX' := hX
  cases hX'
  refine cE_of (pe_sumVals hc hg hm cE_pe (hbase _) hline (hse _)) ?_
  refine (ho.to (Q := fun d σ' => d = x ∧ σ' = σ) (E := E) ⟨rfl, rfl⟩).run X hX st H K w r xc _ fun v d σ1 H1 K1 s1 w1 r1 ⟨e1, e2⟩ => ?_
  subst e1 e2
  obtain ⟨a, vs, rfl, q1, ra⟩ := hx.now w1 r1
  have hv : ∀ (ks : CK) (vs : List (Key × V)), RepK X.K H1 vs (iD ks) → vs.map (·.2) = (ks.map (·.2)).map V.int := by
    intro ks
    induction ks with
    | nil => intro vs h; cases h; rfl
    | cons k ks ih =>
      intro vs h
      cases h with
      | cons h t =>
        cases h
        rw [List.map_cons, List.map_cons, List.map_cons, ih _ t]
  exact ⟨a, vs, ks.map (·.2), rfl, q1, hv ks vs ra, fun i hi => by obtain ⟨z, hz, rfl⟩ := List.mem_map.mp hi; exact hp z hz, hs, fo _ _ _ H1 K1 s1 w1 (.int _) q⟩⟩⟩
end
end Y

/-! Yw: dicts written with several pairs; classmethods as values. -/
namespace Y
open PySem PySem.Spec PyProof.Rows L2 SX Z
section
variable {c : Ct} {ρ : EnvT} {σ : Sg} {k v : Expr} {ks : List (Option Expr)} {vs : List Expr} {pos : Pos} {kvs : List (DK × DT)} {y : DT} {Q : DT → Sg → Prop} {E : TX}
/-- pairs by values -/
structure TVP (c : Ct) (pos : Pos) (ks : List (Option Expr)) (vs : List Expr) (ρ : EnvT) (σ : Sg) (kvs : List (DK × DT)) : Prop where
  run : ∀ X, Con c X → ∃ trs, PPs X pos ks vs trs ∧ ks.all (·.isSome) = true ∧ ks.length = vs.length ∧ kvs.length = ks.length ∧ ∀ st H K, Wd c.K H σ K → REnv c.K H ρ st → ∀ Q' : List (V × V) → Hp → Prop, (∀ kvs' H' K', Gw H σ K H' σ K' → Wd c.K H' σ K' → RepK c.K H' kvs' kvs → Q' (kvs'.map fun kv => (kV kv.1, kv.2)) K') → tPairs trs st K Q'
end
section
variable {c : Ct} {ρ : EnvT} {σ : Sg} {e a o : Expr} {es : List Expr} {pos p apos : Pos} {d x : DT} {C : Addr} {m n : Str} {k : Nat} {ps : List Str} {spec : TSpec}
end
end Y

/-! Ye: exceptions of own classes as values. -/
namespace PySem.W
open PySem PySem.Spec PySem.Calls PyProof.Rows
/-- all that is asked of the text of such a class: one sum for the kernel -/
def excB (K : Frag) (C : Addr) : Bool :=
  [findIn K (.ref C) "__getattribute__" == some (some (.builtin "BaseException.__getattribute__")), findIn K (.ref C) "__getattr__" == some none, subIn K (.ref C) (.type "BaseException") == some true, hasDictIn K C,
   findIn K (.ref C) "__class__" == some (some (.builtin "object.__class__")), specialIn K (.builtin "object.__class__") "__get__" == some (some (.builtin "getset_descriptor.__get__")), takesIn K (.builtin "object.__class__") == some true,
   mroIn K C (.type "object") == some true, typeIn K (.ref C) == some (.type "type"), keepIn K (.ref C)].all id
structure ExcA (K : Frag) (C : Addr) : Prop extends L2.ExcC K C where
  ty : typeIn K (.ref C) = some (.type "type")
  kp : keepIn K (.ref C) = true
theorem excB_ok {K : Frag} {C : Addr} (h : excB K C = true) : ExcA K C := by
  unfold excB at h
  simp only [List.all_cons, List.all_nil, id_eq, Bool.and_true, Bool.and_eq_true, beq_iff_eq] at h
  obtain ⟨h1, h2, h3, h4, h5, h6, h7, h8, h9, h10⟩ := h
  exact { hg := h1, hk := h2, hs := h3, hd := h4, ha := h5, hn := h6, ht := h7, hm := h8, ty := h9, kp := h10 }
section
variable {prog : Program} {w : World} {A : Around} {E : Value → Shared → Prop} {hp : Heap} {g : Array GenState} {d : Drawn} {t : Nat} {os : OsState} {K : Frag} {x D : Addr} {ox : Obj} {od : Option Obj}
/-- its class, asked of an exception that may have a dict -/
theorem ask_cls {Q : Option Value → Shared → Prop} (Z : L2.ExcC K D) (X : K.In hp) (I : InstAt hp x ox D od) (hf : findObj K D od "__class__" = some (.bind (.builtin "getset_descriptor.__get__") (.builtin "object.__class__")))
    (h : Q (some (.ref D)) ⟨hp, g, d, t + 1, os⟩) : wpAny (model prog w) A (getAttr? (.ref x) "__class__") Q E ⟨hp, g, d, t, os⟩ := by
  have tyL := I.type (M := model prog w)
  have isE : Looks (model prog w) hp (isInstance (.ref x) (.type "BaseException")) true := tyL.andThen (looks_subIn X Z.hs)
  have ownGet : (onTheHeap (Value.ref D) && Value.builtin "BaseException.__getattribute__" == Value.builtin "object.__getattribute__") = false := (congrArg (true && ·) (show (Value.builtin "BaseException.__getattribute__" == Value.builtin "object.__getattribute__") = false by decide +kernel))
  unfold getAttr? getAttrBy? getAttrBy
  refine wpAny_bind (wpAny_mkText (wpAny_bind (wpAny_attempt (wpAny_holding (wpAny_bind (tyL.at (wpAny_bind ((looks_findIn X Z.hg).at ?_))))))))
  show wpAny _ _ (if (onTheHeap (Value.ref D) && Value.builtin _ == Value.builtin _) = true then _ else _) _ _ _
  rw [if_neg (by rw [ownGet]; exact Bool.false_ne_true)]
  unfold getAttrByItsOwn hookBefore callGetattribute boundAndCalled
  refine wpAny_bind ?_
  rw [if_pos (show onTheHeap (Value.ref D) = true from rfl)]
  refine (looks_findIn X Z.hk).at (wpAny_bind (wpAny_attempt (wpAny_holding ?_)))
  rw [if_neg (by decide), PySem.F.excAttr_ValueError.ga.bind (.ref x)]
  refine wpAny_bind (wpAny_pure ?_)
  refine wpAny_call (f := .builtin "BaseException.__getattribute__") (pos := [.ref x, .str "__class__" t]) (codeAny_call_builtin PySem.F.excAttr_ValueError.ga.plain PySem.F.entry_bexc_ga ?_)
  refine @check_slot (model prog w) _ _ ⟨hp, g, d, t + 1, os⟩ "BaseException.__getattribute__" "BaseException" "__getattribute__" (.ref x) [.str "__class__" t] [] _ (by decide +kernel) (by decide +kernel) isE (F.args_bexc_ga _ _) ?_
  unfold Builtin.«object.__getattribute__»
  refine wpAny_bind (wpAny_of_eq (a := ((Value.ref x : Value), [Value.str "__class__" t])) (by simp only [slotArgs]; rfl) (wpAny_bind (wpAny_pure (wpAny_bind (tyL.at (wpAny_bind ((looks_find X I hf).at ?_)))))))
  refine wpAny_bind (m := holding [Value.builtin "object.__class__"] (call (.builtin "getset_descriptor.__get__") [.builtin "object.__class__", .ref x, .ref D])) (wpAny_holding (wpAny_call (class_get (s := ⟨hp, g, d, t + 1, os⟩) X I Z.hm (wpAny_pure ?_))))
  exact handed_on (v := .ref D) rfl (by first | exact wpAny_pure (wpAny_pure h) | exact wpAny_pure h | exact wpAny_pure (wpAny_bind (wpAny_pure (wpAny_pure h))))
end
end PySem.W
namespace PySem.W
open PySem PySem.Spec PySem.Calls PyProof.Rows
theorem cls_at {K : Frag} {D : Addr} (hd : hasDictIn K D = true) : ∃ c dd cd sl, K.lookup D = some ⟨c, dd, .cls cd, sl⟩ := by
  obtain ⟨cd, hc, _⟩ := any_some hd
  unfold clsIn at hc
  split at hc
  · next q => exact ⟨_, _, _, _, q⟩
  · cases hc
/-- how such an exception stands in the heap -/
def ExcAt (K : Frag) (D x : Addr) (h : Heap) : Prop := ∃ ox od, InstAt h x ox D od ∧ findObj K D od "__class__" = some (.bind (.builtin "getset_descriptor.__get__") (.builtin "object.__class__"))
theorem kitx_e {K : Frag} {x D : Addr} (Z : L2.ExcC K D) : KitX K (.ref x) (.ref D) (ExcAt K D x) where
  ty := fun _ _ _ ⟨_, _, I, _⟩ => I.type
  it := fun _ h X _ => by
    obtain ⟨c, dd, cd, sl, q⟩ := cls_at Z.hd
    intro A1 Q1 E1 s1 k1 q1
    unfold isType loadHead
    exact wpAny_bind (wpAny_loadPart (k1 D _ (X D _ q)) (wpAny_pure q1))
  ne := fun h tp _ _ _ _ X z => by
    obtain ⟨c, dd, cd, sl, q⟩ := cls_at Z.hd
    refine Bool.eq_false_iff.mpr fun r => ?_
    have e := Value.ref.inj (beq_iff_eq.mp r)
    rw [← e, X D _ q] at z
    cases z
  ca := fun {_ _ _ _ _ s} X ⟨_, _, I, hf⟩ k => by
    obtain ⟨hp, g, d, t, os⟩ := s
    exact ask_cls Z X I hf k
end PySem.W
namespace Y
open PySem PySem.Spec PyProof.Rows L2 SX Z
section
variable {c : Ct} {ρ : EnvT} {σ : Sg} {Q : DT → Sg → Prop} {E : TX} {e : Expr} {pos p : Pos} {fs : List (Str × DT)} {C D : Addr} {b : Bool}
abbrev veB : List Value := [.type "ValueError", .type "Exception", .type "BaseException", .type "object"]
end
end Y

/-! Yi: exceptions whose class has an __init__ of its own, which calls the base's and keeps one field. -/
namespace Y
open PySem PySem.Spec PyProof.Rows L2 SX Z
/-- OexC as one sum -/
def oexB (K : PySem.W.Frag) (C : Addr) : Bool := (match K.lookup C with
  | some ⟨.type "type", _, .cls ⟨_, _, .ref C' :: bm, _, _, true, _, _, _, _, false⟩, ⟨[_, _, _, _, some (.builtin n), _]⟩⟩ => C' == C && (n == "ValueError.__new__" && HandSPX.refsVE bm)
  | _ => false)
theorem oexB_ok {K : PySem.W.Frag} {C : Addr} (Z : PySem.W.ExcA K C) (h : oexB K C = true) (sa : PySem.W.findIn K (.ref C) "__setattr__" = some (some (.builtin "object.__setattr__"))) : OexC K C := by
  refine ⟨?_, sa, Z.hs, Z.ty, Z.kp⟩
  unfold oexB at h
  split at h
  · next q =>
    simp only [Bool.and_eq_true, beq_iff_eq] at h
    obtain ⟨rfl, rfl, hb⟩ := h
    exact ⟨_, _, _, _, _, _, _, _, _, _, _, _, _, _, _, q, hb⟩
  · cases h
/-- what such an __init__ does -/
def spI (C : Addr) (f : Str) : Sp := fun vs K Q _ => ∃ a v, vs = [.ref a, v] ∧ K a = some (exo a C none) ∧ ∀ dx, K dx = none → dx ≠ a → Q .non (upd (upd K dx (exd dx [(f, v)])) a (exo a C (some dx)))
/-- Base.__init__(self, ..), Base an own class -/
structure BaseI (K : PySem.W.Frag) (mg : Str → Option Value) (x : Str) (B : Addr) (mc : Value) : Prop where
  at_ : mg x = some (.ref B)
  rd : PySem.W.readsIn K B mc = true
  ga : PySem.W.specialIn K (.ref B) "__getattribute__" = some (some (.builtin "type.__getattribute__"))
  ini : PySem.W.findCls K (.ref B) mc "__init__" = some (.val (.builtin "ValueError.__init__"))
theorem pe_binit {X : Cx} {x : Str} {B : Addr} {mc : Value} {ta : L2.TA} {e : Expr} {es : List Expr} {p1 p2 pos : Pos} {pl : Sem Bool} (b : BaseI X.K X.mg x B mc) (hg : Gl X x) (ha : PA X (e :: es) ta)
    (hc : eval (.Call (.Attribute (.Name x p1) "__init__" p2) (e :: es) [] pos) X.env = (do
      let ov ← eval (.Name x p1) X.env
      standAt p2.atName
      let (f, first) ← holding [ov] (getMethod ov "__init__" pl)
      callWith pos f first (backTo pos (starEach (e :: es) X.env)) (backToKw pos (keywordEach [] X.env))) := by rfl)
    (he : starEach (e :: es) X.env = (false, eval e X.env) :: starEach es X.env := by rfl) (hpl : (backTo pos (starEach es X.env)).any (·.1) = false := by rfl) (hdb : (x == ("__debug__" : Str)) = false := by decide) :
    PE X (.Call (.Attribute (.Name x p1) "__init__" p2) (e :: es) [] pos) (tVeI X.K ta) := by
  refine ⟨fun pins s σ H Q I h => ?_⟩
  refine PySem.W.methodCall_KW (ld_glob I hg b.at_ ?_ hdb) hc
  refine PySem.W.method_cls I.kIn b.ga (PySem.W.cls_value I.kIn b.rd b.ini (by decide +kernel) ?_)
  refine PyProof.Rows.callWith_method1 (thn (ha.run pos pins _ σ H _ ((I.tok _)) h) fun us s1 z => ?_) he hpl
  obtain ⟨vs, H1, I1, r1, a, C, ws, ev, hl, T, ea, q⟩ := z
  subst ev
  cases r1 with
  | cons ra rw =>
    cases ra
    exact oinit_ok T I1 ea (by rw [← Paired.length rw, sizeLine_eq]; omega) fun s2 J => ⟨.non, H1, J, rfl, q⟩
theorem init_ok {P : Program} {w : World} {F : PySem.W.Frag} {mg : Str → Option Value} {base : Heap} {st : Stmt} {qual f pn : Str} {t : Str} {fI C B : Addr} {fd : FuncData} {k kk : Nat} {mc : Value} {p1 p2 p3 p4 p5 p6 p7 p8 p9 p10 : Pos}
    (Fn : Fun F "__init__" qual st fI fd) (S : FnScope ["self", pn] ["self", pn] (defScope st)) (T : OexC F C) (hno : PySem.W.findIn F (.ref C) f = some none) (b : BaseI F mg "WindowError" B mc)
    (h1 : visB (defScope st) "self" = true) (h2 : visB (defScope st) pn = true) (h3 : (defScope st).names.lookup ("WindowError" : Str) = some .globalImplicit)
    (hbody : defBody st = [.Expr (.Call (.Attribute (.Name "WindowError" p1) "__init__" p2) [.Name "self" p3, .Constant (.str t) kk p4] [] p5) p6, .Assign [.Attribute (.Name "self" p7) f p8] (.Name pn p9) p10])
    (hc : ∀ env, ∃ pl : Sem Bool, eval (.Call (.Attribute (.Name "WindowError" p1) "__init__" p2) [.Name "self" p3, .Constant (.str t) kk p4] [] p5) env = (do
      let ov ← eval (.Name "WindowError" p1) env
      standAt p2.atName
      let (f, first) ← holding [ov] (getMethod ov "__init__" pl)
      callWith p5 f first (backTo p5 (starEach [.Name "self" p3, .Constant (.str t) kk p4] env)) (backToKw p5 (keywordEach [] env))))
    (hd : (pn == ("__debug__" : Str)) = false := by decide) (hcd : (pn == ("__classdict__" : Str)) = false := by decide) : FnG P w F mg base (k + 1) fI fd ["self", pn] (spI C f) := by
  refine fnC_of (hp := none) Fn S (fun vs K Q E ⟨a, v, h, _⟩ => by rw [h]; rfl) (fun cdv A outer s K vs Q E hr hA hot hG ⟨a, v, h, ea, q⟩ => ?_)
  subst h
  rw [hbody]
  let X := cxC none P w F mg base ["self", pn] qual (defScope st) fI cdv A outer s K E
  have vs1 : PE X (.Name "self" p3) (tVar 0) := pe_var rfl (visB_vis h1) (by decide) (by decide)
  have vs2 : PE X (.Name "self" p7) (tVar 0) := pe_var rfl (visB_vis h1) (by decide) (by decide)
  have vn : PE X (.Name pn p9) (tVar 1) := pe_var rfl (visB_vis h2) hd hcd
  obtain ⟨pl, hpl⟩ := hc X.env
  refine ⟨_, pss_cons (ps_expr (pe_binit (X := X) b h3 (pa_cons vs1 (pa_cons (pe_str (X := X)) pa_nil)) hpl (by rfl) (by rfl) (by decide))) (pss_one (ps_ost vs2 vn)), ?_⟩
  refine ⟨_, rfl, ?_⟩
  refine ⟨a, C, [.str t], rfl, Nat.le_of_ble_eq_true rfl, T, ea, ?_⟩
  refine ⟨v, rfl, _, rfl, a, C, rfl, T, hno, .inl ⟨ea, fun dx n ne => ?_⟩⟩
  exact q dx n ne
/-- a class with such an __init__ -/
structure ExcI (P : Program) (w : World) (F : PySem.W.Frag) (mg : Str → Option Value) (base : Heap) (C : Addr) (f : Str) (k : Nat) : Prop where
  o : OexC F C
  run : ∃ fI fd pn, PySem.W.findIn F (.ref C) "__init__" = some (some (.ref fI)) ∧ PySem.W.typeIn F (.ref fI) = some (.type "function") ∧ Binds F fd ["self", pn] [] ∧ FnG P w F mg base k fI fd ["self", pn] (spI C f)
section
variable {c : Ct} {ρ : EnvT} {σ : Sg} {Q : DT → Sg → Prop} {E : TX} {e : Expr} {pos p : Pos} {C : Addr}
end
end Y

/-! Yt: try with several clauses that give their exception a name. -/
namespace Y
open PySem PySem.Spec PyProof.Rows L2 L2H HotX
abbrev ClT := Value × Nat × (Addr → Value → Option Addr → L2.TS)
def outN (i : Nat) (D : Ends) : Ends := { nx := fun σ' H' => D.nx (σ'.set i none) H', rt := D.rt, bk := fun σ' H' => D.bk (σ'.set i none) H', ct := fun σ' H' => D.ct (σ'.set i none) H' }
def wNamed (K : PySem.W.Frag) (Wout : WX) (D : Ends) : List ClT → WX
  | [] => Wout
  | (c, i, ts) :: r => fun cls d σ H => ∃ b, PySem.W.exmOne K cls c = some b ∧ (b = true → ∀ a, H a = none → ts a cls d (outN i D) (σ.set i (some (.ref a))) H) ∧ (b = false → wNamed K Wout D r cls d σ H)
inductive HdN (X : Cx) : List ExceptHandler → List ClT → Prop
  | nil : HdN X [] []
  | cons {x n : Str} {c : Value} {i : Nat} {ts : Addr → Value → Option Addr → L2.TS} {b₀ : Stmt} {suite : List Stmt} {np pos' : Pos} {hds : List ExceptHandler} {l : List ClT} (hi : X.N[i]? = some n) (hln : X.env.kindOf n = some .local) (hc : Names X x c)
      (hsu : ∀ (a : Addr) (oe : Obj) (cls : Value) (d : Option Addr) (pn : List (Addr × Obj)), L2N.Zn cls d oe → (∃ vs, oe.data = .fields vs) → PSs (X.suite a ((a, oe) :: pn)) (b₀ :: suite) (ts a cls d)) (r : HdN X hds l) :
      HdN X (.ExceptHandler (some (.Name x np)) (some n) (b₀ :: suite) pos' :: hds) ((c, i, ts) :: l)
section
variable {X : Cx} {body : List Stmt} {h₀ : ExceptHandler} {hds : List ExceptHandler} {l : List ClT} {pos : Pos} {tb : WX → L2.TS} {Wout : WX}
/-- the clauses, one after the other -/
theorem clauses_ok {pins : List (Addr × Obj)} {σ' : L2.St} {H' : Hp} {sI s' : Shared} {B h3 : Heap} {a : Addr} {cls : Value} {d : Option Addr} {D : Ends} (hs : X.stack = X.env :: X.outer) (hf : X.env.frame = some X.env.locals) (hN : X.N.Nodup) (tk : L2N.Takes X Wout)
    (J : Inv X pins σ' H' sI) (nb : ∀ b o, sI.heap.get? b = some o → b ∉ frs X.stack → B.get? b = some o) (up : sI.heap.UpToSlots h3) (os : s'.os = sI.os) (ag : AllBare s'.gens) (na : H' a = none) (fl3 : HandSPX.FlyingZ B (X.env :: X.outer) a (L2N.Zn cls d) h3) :
    ∀ {hds : List ExceptHandler} {l : List ClT}, HdN X hds l → wNamed X.K Wout D l cls d σ' H' → wpAny (model X.prog X.w) X.A (handleBy (.ref a) X.env hds) (SP X pins D) X.xe { s' with heap := h3 } := by
  have ok := J.ok
  have J3 : Inv X pins σ' H' { s' with heap := h3 } := J.landed nb fl3.1 up os ag
  obtain ⟨oe3, vs3, he3, hz3, hd3⟩ := fl3.there
  have nfr : a ∉ frs (X.env :: X.outer) := fun hm => by
    obtain ⟨_, o', e', hnf⟩ := fl3.2.2.1.mem hm
    rw [he3] at e'
    cases e'
    exact hnf _ hd3
  have nL : a ≠ X.env.locals := fun z => nfr (List.mem_filterMap.mpr ⟨X.env, List.mem_cons_self, by rw [hf, z]⟩)
  have nF : a ∉ X.fs := fun hm => by
    obtain ⟨e, he, q⟩ := List.mem_filterMap.mp hm
    exact nfr (List.mem_filterMap.mpr ⟨e, List.mem_cons_of_mem _ he, q⟩)
  have S3 := J3.suite he3 hd3 na nL nF
  intro hds l hk
  induction hk with
  | nil =>
    intro w
    refine wpAny_handleBy_nil ?_
    obtain ⟨k1, k2, k3, oe, vs, T, oT, ts', he, hz, hd, h1, hr⟩ := id fl3
    unfold PySem.passOn
    refine wpAny_bind (wpAny_field he hd h1 ?_)
    rw [if_neg (show ¬ ((Value.ref T == Value.none) = true) from by simp)]
    have fin : wpAny (model X.prog X.w) X.A (setFlight (.ref a) X.env.frame) (fun _ s4 => wpAny (model X.prog X.w) X.A (throw (.ref a) : Sem Flow) (SP X pins D) X.xe s4) X.xe { s' with heap := h3 } := by
      rw [hf]
      refine HandSPX.setFlight_upZ fl3 fun h4 hh4 up4 => wpAny_throw (tk _ _ ⟨a, B, sI, pins, σ', H', cls, d, rfl, J, nb, up.trans up4, .inr (.inr (by rw [hs]; exact hh4)), na, os, ag, w⟩)
    first
      | exact wpAny_bind (wpAny_pure (wpAny_bind fin))
      | exact wpAny_bind fin
  | @cons x n c i ts b₀ suite np pos' hds2 l2 hi hln hc hsu r ih =>
    intro w
    obtain ⟨b, hb1, hyes, hno⟩ := w
    refine wpAny_handleBy_cons (codeAny_handlers_test ?_) (by intro q; cases q)
    have LT : PySem.W.Looks (model X.prog X.w) h3 (typeOf (.ref a)) cls := fun A Q E s k q => wpAny_typeOf_ref (k _ _ he3) (by rw [hz3.1]; exact q)
    have LM := PySem.W.exm_one (M := model X.prog X.w) (J3.kIn) LT hb1
    have test : ∀ {Q : Value → Shared → Prop} {E : Value → Shared → Prop}, Q c { s' with heap := h3 } → wpAny (model X.prog X.w) (X.A.mark (some (.ref a))) (eval (.Name x np) X.env) Q E { s' with heap := h3 } := fun {Q E} q => by
      obtain ⟨hg, hdbg, hm | ⟨hm, hv, hnn⟩⟩ := hc
      · exact ld_glob (X := X.suite a ((a, oe3) :: (X.pn ++ pins))) S3 hg hm q hdbg
      · exact ld_blt (X := X.suite a ((a, oe3) :: (X.pn ++ pins))) S3 hg hm hv q hnn hdbg
    refine test (LM.here ?_)
    cases b with
    | false =>
      show wpAny _ X.A (handleBy (.ref a) X.env hds2) _ _ _
      exact ih (hno rfl)
    | true =>
      refine codeAny_handlers_suite_as ?_
      refine HandSPX.lands_againZ fl3 fun h4 fl4 up4 => ?_
      have J4 : Inv X pins σ' H' { s' with heap := h4 } := J.landed nb fl4.1 (up.trans up4) os ag
      obtain ⟨oe4, vs4, he4, hz4, hd4⟩ := fl4.there
      have S4 := J4.suite he4 hd4 na nL nF
      refine store_ok (X := X.suite a ((a, oe4) :: (X.pn ++ pins))) (v := .ref a) S4 hN hi (.inl hln) rfl (fun s5 S5 => ?_) (.inr hln)
      refine wpAny_mono ((hsu a oe4 cls d (X.pn ++ pins) hz4 ⟨_, hd4⟩).run [] s5 _ H' _ S5 (hyes rfl a na)) (fun f s6 hsp => ?_) (fun _ _ z => False.elim z)
      have fin : ∀ {σ6 : L2.St} {H6 : Hp} {Q : Shared → Prop}, Inv (X.suite a ((a, oe4) :: (X.pn ++ pins))) [] σ6 H6 s6 → (∀ s7, Inv X pins (σ6.set i none) H6 s7 → Q s7) →
          wpAny (model X.prog X.w) X.A (do bindName X.env n .none; unbindBehindTheSuite X.env n pos') (fun _ s7 => Q s7) X.xe s6 := fun {σ6 H6 Q} S6 hq => gone_ok (S6.unsuite ok) hN hi hln hq
      match f, hsp with
      | .next, ⟨σ6, H6, S6, q6⟩ => exact fin S6 fun s7 J7 => ⟨_, _, J7, q6⟩
      | .brk, ⟨σ6, H6, S6, q6⟩ => exact fin S6 fun s7 J7 => ⟨_, _, J7, q6⟩
      | .cont, ⟨σ6, H6, S6, q6⟩ => exact fin S6 fun s7 J7 => ⟨_, _, J7, q6⟩
      | .ret u, ⟨v6, σ6, H6, S6, r6, q6⟩ => exact fin S6 fun s7 J7 => ⟨_, _, _, J7, r6, q6⟩
theorem ps_tryN (hs : X.stack = X.env :: X.outer) (hf : X.env.frame = some X.env.locals) (hN : X.N.Nodup) (tk : L2N.Takes X Wout)
    (hb : ∀ (W : WX) (pn : List (Addr × Obj)) (xe : Value → Shared → Prop), L2N.Takes (X.tr pn xe) W → PassesOwn (model X.prog X.w) X.A X.env xe → (∀ p ∈ X.pn, p ∈ pn) → PSs (X.tr pn xe) body (tb W))
    (hh : HdN X (h₀ :: hds) l) : PS X (.Try body (h₀ :: hds) [] [] pos) (fun D σ H => tb (wNamed X.K Wout D l) D σ H) := ⟨fun pins s σ H D I h => by
  have ok := I.ok
  refine wpAny_Try_except (wpAny_mono ((hb (wNamed X.K Wout D l) (X.pn ++ pins) (fun e s₁ => wpAny (model X.prog X.w) X.A (noteFrame e X.env) (fun _ s₂ => wpAny (model X.prog X.w) X.A (setFlight e none) (fun _ s₃ =>
    wpAny (model X.prog X.w) X.A (handleBy e X.env (h₀ :: hds)) (SP X pins D) X.xe s₃) X.xe s₂) X.xe s₁) (fun u s' xx => ?_) PassesOwn.looking (fun p hp => List.mem_append_left _ hp)).run [] s σ H D (I.toTry _) h) (fun f s1 hsp => ?_) (fun e s1 he => he))
  · obtain ⟨a, B, sI, pins', σ', H', cls, d, rfl, J', nb, up, sky, na, os, ag, w⟩ := xx
    have J : Inv X pins σ' H' sI := J'.ofTry ok
    refine L2N.Sky.land L2N.Zn.steady (by rw [ok.frames, hs]) hf (by rw [← hs]; exact sky) fun h3 fl3 up3 => ?_
    exact clauses_ok hs hf hN tk J nb (up.trans up3) os ag na fl3 hh w
  · match f, hsp with
    | .next, ⟨σ', H', J', q⟩ => exact wpAny_execs_nil ⟨σ', H', J'.ofTry ok, q⟩
    | .brk, ⟨σ', H', J', q⟩ => exact ⟨σ', H', J'.ofTry ok, q⟩
    | .cont, ⟨σ', H', J', q⟩ => exact ⟨σ', H', J'.ofTry ok, q⟩
    | .ret u, ⟨v, σ', H', J', r, q⟩ => exact ⟨v, σ', H', J'.ofTry ok, r, q⟩⟩
end
end Y

/-! Yx: raise and try over trees; the exception that a suite holds. -/
namespace Y
open PySem PySem.Spec PyProof.Rows L2 L2H HotX SX Z
/-! ### the exception that is handled -/
/-- what is known of it: its class, its dict -/
structure HotE (p : Addr × Obj) (C : Addr) (d : Option Addr) : Prop where
  cls : p.2.cls = .ref C
  dict : p.2.dict = d
theorem hot_inst {X : Cx} {pins : List (Addr × Obj)} {st : L2.St} {H K : Hp} {σ : Sg} {s : Shared} {v : V} {a C : Addr} {oe : Obj} {d : Option Addr} {fs : List (Str × DT)} (Z : ExcC X.K C) (hot : Hot1 X.A (a, oe) ∧ (a, oe) ∈ X.pn) (he : HotE (a, oe) C d) (w : Wd X.K H σ K) (I : Inv X pins st K s) (r : Rep X.K H v (.hot a d fs)) :
    v = .ref a ∧ PySem.W.ExcAt X.K C a s.heap ∧ ∀ n x, fs.lookup n = some x → ∃ y u od, Rep X.K H y x ∧ RelV y u ∧ PySem.W.InstAt s.heap a oe C (some od) ∧ PySem.W.lookIn n od = some (some u) := by
  have ic : (PySem.W.clsIn X.K C).isSome = true := by
    obtain ⟨cd, hc, _⟩ := PySem.W.any_some Z.hd
    rw [hc]
    rfl
  obtain ⟨ha, _⟩ := I.pin (a, oe) (List.mem_append_left _ hot.2)
  obtain ⟨_, vs, hd, _⟩ := hot.1
  have nc : PySem.W.notCls oe = true := by unfold PySem.W.notCls; rw [show oe.data = .fields vs from hd] <;> rfl
  have h1 : oe.cls = .ref C := he.cls
  have h2 : oe.dict = d := he.dict
  cases r with
  | hot0 => exact ⟨rfl, ⟨oe, none, ⟨ha, h1, nc, by rw [h2]; trivial⟩, PySem.W.findObj_dataN ic Z.ha Z.hn Z.ht⟩, fun n x z => by cases z⟩
  | @hot1 _ dx ws ds e rf =>
    have hx : ObjOk X.prog X.w K s.heap dx (.xd ws) := I.hok dx _ (w.le _ _ e)
    obtain ⟨mA, hns, hr⟩ := hx
    obtain ⟨od, ho, hl⟩ := lookIn_ns hns
    refine ⟨rfl, ⟨oe, some od, ⟨ha, h1, nc, by rw [h2]; exact ho⟩, PySem.W.findObj_data ic Z.ha Z.hn Z.ht⟩, fun n x z => ?_⟩
    obtain ⟨y, l, ry⟩ := rf.lookup z
    obtain ⟨u, hu, ru⟩ := RelO.some_of (v := y) (o := mA n) (by rw [← l]; exact hr n)
    exact ⟨y, u, od, ry, ru, ⟨ha, h1, nc, by rw [h2]; exact ho⟩, by rw [hl, hu]⟩
section
variable {c : Ct} {ρ : EnvT} {σ : Sg} {Q : DT → Sg → Prop} {E : TX} {e : Expr} {pos p : Pos} {fs : List (Str × DT)} {C D a : Addr} {oe : Obj} {d : Option Addr} {b : Bool} {x : DT}
/-- isinstance of it -/
theorem pf_isH {y : DT} {cv : Value} (hc : c.hp = some (a, oe)) (he : HotE (a, oe) C d) (Z : ExcC c.K C) (hy : (y = .ref D ∧ cv = .ref D) ∨ ∃ n, y = .ty n ∧ cv = .type n) (q : PySem.W.kitOne c.K (.ref C) cv = some b) : POF c (.builtin "isinstance") [.hot a d fs, y] σ (.bl b) := ⟨fun X hX H K w vs ra Q k => by
  have hX' := hX
  cases hX' with
  | mk _ k' Wx fl hpp hrH hcf hh hp' ht hf hN hU hst =>
  have hc : hpp = some (a, oe) := hc
  obtain ⟨v, u2, rfl, rv, ru⟩ := repA_two ra
  intro pins s st us I rr
  obtain ⟨x1, x2, rfl, r1, r2⟩ := vals2 rr
  obtain ⟨rfl, ea, _⟩ := hot_inst Z (hh _ hc) he w I rv
  cases r1
  have e2 : x2 = cv := by
    rcases hy with ⟨e, e'⟩ | ⟨n, e, e'⟩
    · subst e e'
      cases ru
      exact r2
    · subst e e'
      cases ru
      exact r2
  subst e2
  exact PySem.W.kia_one (PySem.W.kitx_e Z) I.kIn ea q (fun z => nomatch z) fun tk => ⟨.bl b, K, I.tok tk, rfl, k _ H K Gw.refl w (.bl b)⟩⟩
end
/-! ### raise -/
section
variable {c : Ct} {ρ : EnvT} {σ : Sg} {D : EndT} {e : Expr} {pos pos3 p p2 : Pos} {C : Addr} {x : Str}
theorem ts_raise1 [Calm c] {m : Str} {j : Nat} (q : PySem.W.excIn c.K C veB "ValueError.__new__" = true) (Z : PySem.W.ExcA c.K C) (kC : PySem.W.keepIn c.K (.ref C) = true) (hg : GlS c x) (hm : c.mg x = some (.ref C)) (h : D.ex (.ref C) none ρ σ) (hdb : (x == ("__debug__" : Str)) = false := by decide) :
    TS c (.Raise (some (.Call (.Name x p) [.Constant (.str m) j p2] [] pos)) none pos3) ρ σ D := ⟨fun X hX st H K w re D' f => by
  have hX' := hX
  cases hX' with
  | mk _ k' Wx fl hpp hrH hcf hh hp' ht hf hN hU hst =>
  obtain rfl : hpp = none := ‹Calm _›.h
  refine cS_of (L2N.ps_raise (hcf rfl).1 ht (L2N.pmk_own (bmB := veB) PySem.F.excBase_ValueError q hm kC (raises_own Z.hs Z.ty) hg hdb)) ?_
  exact f.ex _ none none ρ σ st H K Gw.refl w re .nil h⟩
end
/-! ### try -/
abbrev Ct.suite (c : Ct) (p : Addr × Obj) : Ct := ⟨c.P, c.w, c.K, c.mg, c.base, c.N, c.sc, c.k, fun _ _ _ _ => False, c.fa, some p⟩
abbrev Ct.tr (c : Ct) (W : WX) : Ct := ⟨c.P, c.w, c.K, c.mg, c.base, c.N, c.sc, c.k, W, c.fa, c.hp⟩
theorem con_suite {c : Ct} [Calm c] {X : Cx} (hX : Con c X) {a : Addr} {oe : Obj} {cls : Value} {d : Option Addr} {pn : List (Addr × Obj)} (z : L2N.Zn cls d oe) (hd : ∃ vs, oe.data = .fields vs) : Con (c.suite (a, oe)) (X.suite a ((a, oe) :: pn)) := by
  cases hX with
  | mk _ k' Wx fa hpp hrH hcf hh hp' ht hf hN hU hst =>
  exact Con.mk (X.suite a ((a, oe) :: pn)) k' _ fa (some (a, oe)) ⟨hrH.dp, hrH.un⟩ (fun z => nomatch z) (fun q e => by cases e; exact ⟨⟨rfl, let ⟨vs, h⟩ := hd; ⟨vs, h, z.2.2 vs h⟩⟩, List.mem_cons_self⟩) PassesOwn.never takesN0 hf hN hU hst
theorem con_tr {c : Ct} [Calm c] {X : Cx} (hX : Con c X) {W : WX} {pn : List (Addr × Obj)} {xe : Value → Shared → Prop} (tk : L2N.Takes (X.tr pn xe) W) (po : PassesOwn (model X.prog X.w) X.A X.env xe) : Con (c.tr W) (X.tr pn xe) := by
  cases hX with
  | mk _ k' Wx fa hpp hrH hcf hh hp' ht hf hN hU hst =>
  obtain rfl : hpp = none := ‹Calm _›.h
  exact Con.mk (X.tr pn xe) k' W fa none hrH hcf (fun _ z => nomatch z) po tk hf hN hU hst
abbrev ClY := Value × Nat × List Stmt
inductive HdY (c : Ct) : List ExceptHandler → List ClY → Prop
  | nil : HdY c [] []
  | cons {x n : Str} {cv : Value} {i : Nat} {b₀ : Stmt} {suite : List Stmt} {np pos' : Pos} {hds : List ExceptHandler} {l : List ClY} (hi : c.N[i]? = some n) (hln : c.sc.names.lookup n = some .local) (hg : GlS c x) (hdb : (x == ("__debug__" : Str)) = false) (hm : c.mg x = some cv) (r : HdY c hds l) :
      HdY c (.ExceptHandler (some (.Name x np)) (some n) (b₀ :: suite) pos' :: hds) ((cv, i, b₀ :: suite) :: l)
/-- what the clauses wish -/
def exY (c : Ct) (D : EndT) : List ClY → Value → Option (List (Str × DT)) → EnvT → Sg → Prop
  | [] => D.ex
  | (cv, i, su) :: r => fun cls x ρ σ => ∃ b, PySem.W.exmOne c.K cls cv = some b ∧
      (b = true → ∀ a oe d, oe.cls = cls → oe.dict = d → TBk (c.suite (a, oe)) su (ρ.set i (some (.hot a d (x.getD [])))) σ { nx := fun ρ' σ' => D.nx (ρ'.set i none) σ', rt := D.rt, bk := fun ρ' σ' => D.bk (ρ'.set i none) σ', ct := fun ρ' σ' => D.ct (ρ'.set i none) σ' }) ∧ (b = false → exY c D r cls x ρ σ)
def tsY (X : Cx) (su : List Stmt) : Addr → Value → Option Addr → L2.TS := fun a cls d D st K => ∀ oe pn, L2N.Zn cls d oe → (∃ vs, oe.data = .fields vs) → cB (X.suite a ((a, oe) :: pn)) su D st K
def tbY (X : Cx) (body : List Stmt) (W : WX) : L2.TS := fun D st K => ∀ pn xe, L2N.Takes (X.tr pn xe) W → PassesOwn (model X.prog X.w) X.A X.env xe → (∀ p ∈ X.pn, p ∈ pn) → cB (X.tr pn xe) body D st K
theorem xrep_hot {F : PySem.W.Frag} {H : Hp} {a : Addr} {d : Option Addr} {x : Option (List (Str × DT))} (r : XRep F H d x) : Rep F H (.ref a) (.hot a d (x.getD [])) := by
  cases r with
  | nil => exact .hot0 a
  | dict e rf => exact .hot1 e rf
section
variable {c : Ct} {ρ : EnvT} {σ : Sg} {D : EndT}
theorem hdn_of {X : Cx} {fa : Bool} (hX : Con c X) : ∀ {hds : List ExceptHandler} {l : List ClY}, HdY c hds l → HdN X hds (l.map fun q => (q.1, q.2.1, tsY X q.2.2))
  | _, _, .nil => .nil
  | _, _, .cons hi hln hg hdb hm r => by
    have ih := hdn_of (fa := fa) hX r
    cases hX
    exact .cons hi hln ⟨hg, hdb, .inl hm⟩ (fun a oe cls d pn z hd => ⟨fun pins s σ H D I h => h oe pn z hd pins s I⟩) ih
theorem ts_try [Calm c] {body : List Stmt} {h₀ : ExceptHandler} {hds : List ExceptHandler} {l : List ClY} {pos : Pos} (hfa : c.fa = true) (hh : HdY c (h₀ :: hds) l) (h : ∀ W, TBk (c.tr W) body ρ σ { D with ex := exY c D l }) : TS c (.Try body (h₀ :: hds) [] [] pos) ρ σ D := ⟨fun X hX st H K w re D' f => by
  have hn := hdn_of (fa := true) hX hh
  have hs : X.stack = X.env :: X.outer ∧ X.env.frame = some X.env.locals ∧ X.ex = [] := by
    cases hX with
    | mk _ k' Wx fa hpp hrH hcf hh' hp' ht hf hN hU hst => exact hst hfa
  have hN : X.N.Nodup := by cases hX; assumption
  have tk : L2N.Takes X c.Wx := by cases hX; assumption
  refine cS_of (ps_tryN (tb := tbY X body) hs.1 hs.2.1 hN tk (fun W pn xe t po hp => ⟨fun pins s σ H D I z => z pn xe t po hp pins s I⟩) hn) ?_
  intro pn xe t po hp
  refine (h _).run (X.tr pn xe) (con_tr hX t po) st H K w re D' ⟨f.nx, f.rt, f.bk, f.ct, fun cls dA x ρ' σ' st' H' K' g w' re' xr q => ?_⟩
  have go : ∀ l : List ClY, exY c D l cls x ρ' σ' → wNamed X.K c.Wx D' (l.map fun q => (q.1, q.2.1, tsY X q.2.2)) cls dA st' K' := by
    intro l
    induction l with
    | nil => exact fun q => f.ex cls dA x ρ' σ' st' H' K' g w' re' xr q
    | cons cl r ih =>
      obtain ⟨cv, i, su⟩ := cl
      rintro ⟨b, e, h1, h2⟩
      refine ⟨b, by cases hX; exact e, fun hb a na oe pn2 z hd => ?_, fun hb => ih (h2 hb)⟩
      refine (h1 hb a oe dA z.1 z.2.1).run _ (con_suite hX z hd) _ H' K' w' (re'.set (xrep_hot xr) i) _ ⟨fun ρ2 σ2 st2 H2 K2 g2 w2 re2 q2 => f.nx _ _ _ H2 K2 (g.trans g2) w2 (re2.unset i) q2, fun v d2 σ2 H2 K2 g2 w2 rv q2 => f.rt _ _ _ H2 K2 (g.trans g2) w2 rv q2, fun ρ2 σ2 st2 H2 K2 g2 w2 re2 q2 => f.bk _ _ _ H2 K2 (g.trans g2) w2 (re2.unset i) q2, fun ρ2 σ2 st2 H2 K2 g2 w2 re2 q2 => f.ct _ _ _ H2 K2 (g.trans g2) w2 (re2.unset i) q2, fun _ _ _ _ _ _ _ _ _ _ _ _ q2 => q2.elim⟩
  exact go l q⟩
end
end Y

/-! Yb: + - * of an instance and any other value. -/
namespace PySem.W
open PySem PySem.Calls PyProof.Rows Builtin
section
variable {prog : Program} {w : World} {A : Around} {E : Value → Shared → Prop} {s : Shared} {K : Frag} {x C L f : Addr} {h₀ : Heap} {m : Str → Option Value} {ox : Obj} {od : Option Obj}
end
end PySem.W
namespace Y
open PySem PySem.Spec PyProof.Rows L2 SX Z
def tys : List String := ["NoneType", "bool", "int", "str", "list", "tuple", "dict"]
theorem tyT_mem {σ : Sg} {y : DT} {T : String} (h : tyT σ y = some T) : T ∈ tys := by
  unfold tys
  cases y <;> (try (cases h; done)) <;> (try (cases h; simp; done))
  rename_i p
  unfold tyT at h
  cases e : σ p with
  | none => simp [e] at h
  | some cc => cases cc <;> simp [e] at h <;> subst h <;> simp
/-- what is asked of the class, for + - * -/
structure OpC (K : PySem.W.Frag) (C : Addr) (r : Str) : Prop where
  sf : PySem.W.selfFirst K C = true
  sub : ∀ T ∈ tys, PySem.W.subIn K (.type T) (.ref C) = some false
  r : PySem.W.findIn K (.ref C) r = some none
section
variable {c : Ct} {ρ : EnvT} {σ : Sg} {Q : DT → Sg → Prop} {E : TX} {a b : Expr} {pos : Pos} {C : Addr} {k : Nat} {ps : List Str} {spec : TSpec} {m : Str}
end
end Y

/-! Yp: three names at once; operators as values; == of a tree and itself. -/
namespace Y
open PySem PySem.Spec PyProof.Rows L2 SX Z
section
variable {c : Ct} {ρ : EnvT} {σ : Sg} {D : EndT} {a b e3 : Expr} {pos : Pos} {x y z : Str}
end
section
variable {c : Ct} {ρ : EnvT} {σ : Sg} {a b : Expr} {pos : Pos} {C : Addr} {k : Nat} {ps : List Str} {spec : TSpec} {m : Str} {d y : DT} {fs : List (Str × DT)}
end
section
variable {c : Ct} {ρ : EnvT} {σ : Sg} {tg iter kx vx ifx : Expr} {scope : Scope} {pos : Pos} {own : List (Str × Nat)} {t : TgS}
end
end Y

set_option autoImplicit false
/-! min of a list of texts -/
namespace Y
open PySem PySem.Spec L2 SX Z
end Y

set_option autoImplicit false
/-! list slices with a step -/
namespace Y
open PySem PySem.Spec PyProof.Rows L2 SX Z
section
variable {c : Ct} {ρ : EnvT} {σ : Sg} {Q : DT → Sg → Prop} {E : TX} {e : Expr} {pos p3 : Pos} {lo st : Option Expr} {l : Option Int} {z : Int} {xs : List DT} {x : DT}
end
end Y

set_option autoImplicit false
/-! list.pop(i); list(d) as a cell -/
namespace Y
open PySem PySem.Spec PyProof.Rows L2 SX Z
section
variable {c : Ct} {ρ : EnvT} {σ : Sg} {P : DT → Sg → Prop} {p : Addr} {xs : List DT} {d : DT}
end
section
variable {c : Ct} {ρ : EnvT} {σ : Sg} {Q : DT → Sg → Prop} {E : TX} {a : Expr} {p pos : Pos}
end
end Y

set_option autoImplicit false
/-! list(d.items()), raw -/
namespace YK
open PySem PySem.W PySem.Calls PyProof.Rows PyProof.V PySem.Spec DT
section
variable {prog : Program} {w : World} {A : Around} {E : Value → Shared → Prop} {s : Shared} {r d : Addr} {es : Array DictEntry} {ep : Nat}
theorem li_init {R : Result → Shared → Prop} (hh : A.handled = none) (hv : s.heap.IsItemsView r d) (hm : Raw s.heap d es ep) (S : Addr) (hSr : S ≠ r) (hSd : d ≠ S) (hS : s.heap.get? S = some { cls := .type "list", data := .seq #[] })
    (hR : ∀ h' tk acc c as, (∀ b o, b ≠ S → s.heap.get? b = some o → h'.get? b = some o) → h'.get? S = some { cls := .type "list", dict := none, data := .seq acc c, slots := #[] } → as.length = es.size → Made es s.heap.objs.size h' as → acc.toList = as.map Value.ref → R (.ok (.ret .none)) { s with heap := h', toks := tk }) (hn : es.size ≤ sizeLine) :
    wpAny (model prog w) A.in1 (Builtin.«list.__init__» ⟨[.ref S, .ref r], []⟩)
      (fun fin s' => match fin with | .done f => R (.ok f) s' | .again c' => c'.quiet = true ∧ codeAny (model prog w) A c' R s') (fun e s' => R (.error e) s') s := by
  show wpAny _ _ (do let old ← Builtin.List.listItems (.ref S); Builtin.List.listUpdate (.ref S) (fun _ => #[]); letGo old.toList.reverse; Builtin.List.listExtendWith (.ref S) (.ref r) .none) _ _ s
  refine wpAny_bind ?_
  unfold Builtin.List.listItems
  refine wpAny_bind (wpAny_seqItems hS rfl (wpAny_pure ?_))
  show wpAny _ _ (updateSeq S (fun _ => #[]) >>= fun _ => letGo (#[] : Array Value).toList.reverse >>= fun _ => Builtin.List.listExtendWith (.ref S) (.ref r) .none) _ _ s
  refine wpAny_bind (wpAny_updateSeq hS rfl ?_)
  have hS₂ := Heap.get?_update_self (Obj.mapSeq (fun _ => (#[] : Array Value))) hS rfl
  have oth : ∀ b o, b ≠ S → s.heap.get? b = some o → (s.heap.update S (Obj.mapSeq (fun _ => (#[] : Array Value)))).get? b = some o :=
    fun b o hb e => (Heap.get?_update_other _ _ (Ne.symm hb)).trans e
  refine wpAny_bind (wpAny_letGo ?_)
  refine extI (s := { s with heap := s.heap.update S (Obj.mapSeq (fun _ => (#[] : Array Value))) }) hh (let ⟨o, ho, x⟩ := hv; ⟨o, oth _ _ hSr.symm ho, x⟩) (hm.at' fun o e => oth d o hSd e) S hSr hSd .none _ hS₂ (fun h' tk acc c as hk hS' hl hG hacc => ?_) hn
  exact hR h' tk acc c as (fun b o hb e => hk b o hb (oth b o hb e)) hS' hl (hG.low (by rw [Heap.size_update]; exact Nat.le_refl _)) hacc
theorem li_call {Q : Value → Shared → Prop} (hh : A.handled = none) (hv : s.heap.IsItemsView r d) (hm : Raw s.heap d es ep) (hn : es.size ≤ sizeLine)
    (hQ : ∀ h' tk acc c as, (∀ b o, s.heap.get? b = some o → h'.get? b = some o) → h'.get? s.heap.objs.size = some { cls := .type "list", dict := none, data := .seq acc c, slots := #[] } → as.length = es.size → Made es s.heap.objs.size h' as → acc.toList = as.map Value.ref → Q (.ref s.heap.objs.size) { s with heap := h', toks := tk }) :
    wpAny (model prog w) A (call (.type "list") [.ref r]) Q E s := by
  refine callType_codes (Q₁ := fun obj s₁ => obj = .ref s.heap.objs.size ∧ s₁ = { s with heap := s.heap.push { cls := .type "list", data := .seq #[] } }) PySem.F.called_list (PySem.F.typeCall_list_1 _) PySem.F.entry_list_init
    (code_list_new _ ⟨rfl, rfl⟩) fun obj s₁ h₁ => ?_
  obtain ⟨rfl, rfl⟩ := h₁
  have hS : (s.heap.push { cls := .type "list", data := .seq #[] }).get? s.heap.objs.size = some { cls := .type "list", data := .seq #[] } := Heap.get?_push_size _ rfl
  have hr : r < s.heap.objs.size := let ⟨_, ho, _⟩ := hv; Heap.lt_size ho
  refine ⟨⟨_, hS, rfl⟩, PySem.F.args_list_init_2 _ _, li_init (A := A.in1) (s := { s with heap := s.heap.push { cls := .type "list", data := .seq #[] } }) hh (let ⟨o, ho, x⟩ := hv; ⟨o, Heap.get?_push_of_some _ ho, x⟩) (hm.push _) _ (Nat.ne_of_gt hr) (Nat.ne_of_lt hm.lt) hS (fun h' tk acc c as hk hS' hl hG hacc => ?_) hn⟩
  exact ⟨rfl, hQ h' tk acc c as (fun b o e => hk b o (Nat.ne_of_lt (Heap.lt_size e)) (Heap.get?_push_of_some _ e)) hS' hl (hG.low (by show s.heap.objs.size ≤ (s.heap.push _).objs.size; rw [Heap.size_push]; exact Nat.le_succ _)) hacc⟩
end
end YK

set_option autoImplicit false
/-! list(d.items()) -/
namespace Y
open PySem PySem.Spec PyProof.Rows L2 SX Z
open L2.DX (itemsO itemsO_ok)
def addAll (H : Hp) (L : List (Addr × List V)) : Hp := L.foldl (fun H p => upd H p.1 (.tup p.2)) H
theorem addAll_old : ∀ (L : List (Addr × List V)) (H : Hp) (b : Addr), b ∉ L.map (·.1) → addAll H L b = H b
  | [], _, _, _ => rfl
  | p :: L, H, b, h => by
    rw [List.map_cons, List.mem_cons, not_or] at h
    show addAll (upd H p.1 (.tup p.2)) L b = H b
    rw [addAll_old L _ b h.2, upd_ne h.1]
theorem addAll_inv {X : Cx} {pins : List (Addr × Obj)} {σ : L2.St} {H0 : Hp} {s : Shared} {h' : Heap} {tk : Nat} (I0 : L2.Inv X pins σ H0 s) : ∀ (L : List (Addr × List V)) (H1 : Hp), L2.Inv X pins σ H1 { s with heap := h', toks := tk } → (L.map (·.1)).Nodup →
    (∀ p ∈ L, s.heap.objs.size ≤ p.1 ∧ H1 p.1 = none ∧ ∀ H2, ObjOk X.prog X.w H2 h' p.1 (.tup p.2)) → L2.Inv X pins σ (addAll H1 L) { s with heap := h', toks := tk }
  | [], _, I1, _, _ => I1
  | p :: L, H1, I1, hn, h => by
    obtain ⟨hb, hnone, ok⟩ := h p List.mem_cons_self
    have I2 : L2.Inv X pins σ (upd H1 p.1 (.tup p.2)) { s with heap := h', toks := tk } := I1.take (h' := h') (t' := tk) (fun b ob _ e => e) (I0.fpOk hb hnone) (ok _)
    rw [List.map_cons, List.nodup_cons] at hn
    exact addAll_inv I0 L _ I2 hn.2 fun q hq => by
      obtain ⟨c1, c2, c3⟩ := h q (List.mem_cons_of_mem _ hq)
      exact ⟨c1, by show upd H1 p.1 (.tup p.2) q.1 = none; rw [upd_ne (fun e => hn.1 (by rw [← e]; exact List.mem_map.mpr ⟨q, hq, rfl⟩))]; exact c2, c3⟩
theorem addAll_wd {F : PySem.W.Frag} {σ : Sg} : ∀ (L : List (Addr × List V)) (H K : Hp), Wd F H σ K → (L.map (·.1)).Nodup → (∀ p ∈ L, K p.1 = none) → ∃ H', Gw H σ K H' σ (addAll K L) ∧ Wd F H' σ (addAll K L) ∧ ∀ p ∈ L, H' p.1 = some (.tup p.2)
  | [], H, K, w, _, _ => ⟨H, Gw.refl, w, fun _ h => nomatch h⟩
  | p :: L, H, K, w, hn, h => by
    rw [List.map_cons, List.nodup_cons] at hn
    obtain ⟨g, w2⟩ := w.new (o := .tup p.2) (h p List.mem_cons_self)
    obtain ⟨H', g2, w3, q⟩ := addAll_wd L _ _ w2 hn.2 fun q hq => by
      rw [upd_ne (fun e => hn.1 (by rw [← e]; exact List.mem_map.mpr ⟨q, hq, rfl⟩))]
      exact h q (List.mem_cons_of_mem _ hq)
    refine ⟨H', g.trans g2, w3, fun q' hq => ?_⟩
    rcases List.mem_cons.mp hq with rfl | hq
    · exact g2.b _ _ upd_same
    · exact q q' hq
def itemsL (as : List Addr) (kvs : List (Key × V)) : List (Addr × List V) := as.zip (kvs.map fun kv => [kV kv.1, kv.2])
def rItemsK : V → List V → Hp → VK → Prop := fun x xs H Q => ∃ (a : Addr) (kvs : List (Key × V)), x = .ref a ∧ xs = [] ∧ Rd H a (.dK kvs) ∧ ∀ p, H p = none → Q (.ref p) (upd H p (itemsO p a))
theorem mt_itemsK {X : Cx} : MtR X "dict.items" rItemsK := by
  intro pins s σ H x xs v us Q I rx rxs h
  obtain ⟨a, kvs, rfl, rfl, ha, q⟩ := h
  cases rx
  cases rxs
  obtain ⟨_, hsys, vs, rel, dof⟩ := dk_rd I.hok ha
  obtain ⟨o, es, ep, ho, ex, hdat, _⟩ := id dof
  refine _root_.DT.callItems (es := es) (ep := ep) hsys ⟨o, ho, ex, hdat⟩ ?_
  have hf : H s.heap.objs.size = none := I.hok.fresh (Nat.le_refl _)
  exact ⟨.ref s.heap.objs.size, upd H s.heap.objs.size (itemsO s.heap.objs.size a), I.laid (t' := s.toks) (fun b u e => Heap.get?_push_of_some _ e) (Nat.le_refl _) (itemsO_ok (Heap.get?_push_size _ rfl)), rfl, q _ hf⟩
def rListIt : List V → Hp → VK → Prop := fun vs H Q => ∃ (p a : Addr) (kvs : List (Key × V)), vs = [.ref p] ∧ H p = some (itemsO p a) ∧ Rd H a (.dK kvs) ∧
  ∀ (as : List Addr) (l : Addr), as.length = kvs.length → as.Nodup → (∀ b ∈ as, H b = none) → H l = none → l ∉ as → Q (.ref l) (upd (addAll H (itemsL as kvs)) l (.lst (as.map V.ref)))
theorem vals_refs : ∀ as : List Addr, Vals (as.map V.ref) (as.map Value.ref)
  | [] => .nil
  | _ :: as => .cons rfl (vals_refs as)
theorem cr_listItems {X : Cx} (hc : X.calm = true) : CallR X (.type "list") rListIt := by
  intro pins s σ H xs us Q I r h
  obtain ⟨p, a, kvs, rfl, hp, ha, q⟩ := h
  obtain rfl := Vals.ref1 r
  have view : s.heap.IsItemsView p a := (show ObjOk X.prog X.w H s.heap p (itemsO p a) from I.hok p _ hp).1
  obtain ⟨hsz, hsys, vs, rel, dof⟩ := dk_rd I.hok ha
  obtain ⟨o, es, ep, ho, ex, hdat, hko, hpr, hnd⟩ := id dof
  have l1 : kvs.length = vs.length := KV.length rel
  have l2 : es.size = vs.length := by
    have := hpr.length
    rw [Array.length_toList] at this
    exact this
  refine YK.li_call (es := es) (ep := ep) (I.ok.hd hc) view ⟨o, ho, ex, hdat⟩ (by omega) fun h' tk acc c as hk hl hlen hG hacc => ?_
  have nd : as.Nodup := List.Pairwise.imp (fun h => Nat.ne_of_lt h) hG.rise
  have fr : ∀ b ∈ as, H b = none := fun b hb => I.hok.fresh (Nat.le_of_lt (hG.above b hb))
  have fl : H s.heap.objs.size = none := I.hok.fresh (Nat.le_refl _)
  have nl : s.heap.objs.size ∉ as := fun hb => Nat.lt_irrefl _ (hG.above _ hb)
  have ek : (itemsL as kvs).map (·.1) = as := by
    unfold itemsL
    exact List.map_fst_zip (by rw [List.length_map]; omega)
  have I1 : L2.Inv X pins σ H { s with heap := h', toks := tk } := I.kept (t' := tk) hk
  have I2 := addAll_inv I (itemsL as kvs) H I1 (by rw [ek]; exact nd) fun z hz => by
    have hz1 : z.1 ∈ as := by rw [← ek]; exact List.mem_map.mpr ⟨z, hz, rfl⟩
    refine ⟨Nat.le_of_lt (hG.above _ hz1), fr _ hz1, fun H2 => ?_⟩
    obtain ⟨j, hj⟩ := List.mem_iff_getElem?.mp hz
    unfold itemsL at hj
    obtain ⟨j1, j2⟩ := List.getElem?_zip_eq_some.mp hj
    rw [List.getElem?_map] at j2
    obtain ⟨kv, hkv, ekv⟩ := Option.map_eq_some_iff.mp j2
    obtain ⟨e, he, hg⟩ := hG.pairs j z.1 j1
    have jl : j < vs.length := by have := (List.getElem?_eq_some_iff.mp hkv).1; omega
    obtain ⟨x, hx, rx⟩ := KV.at' rel (i := j) (k := (vs[j]'jl).1) (v := (vs[j]'jl).2) (List.getElem?_eq_getElem jl)
    have exk : kv = ((vs[j]'jl).1, x) := Option.some.inj (hkv.symm.trans hx)
    obtain ⟨k1, k2⟩ := hpr.get? (i := j) (e := e) (k := (vs[j]'jl).1) (v := (vs[j]'jl).2) (by rw [Array.getElem?_toList]; exact he) (List.getElem?_eq_getElem jl)
    rw [← ekv, exk]
    refine ⟨by rw [sizeLine_eq]; exact Nat.le_of_ble_eq_true rfl, [e.key, e.val], .cons ?_ (.cons (by rw [k2]; exact rx) .nil), ⟨_, hg, rfl, 0, rfl⟩⟩
    rcases keyIs_shape k1 with ⟨i, t, ek, ev⟩ | ⟨z, t, ek, ev⟩
    · rw [ek]; exact ⟨t, ev⟩
    · rw [ek]; exact ⟨t, ev⟩
  have I3 : L2.Inv X pins σ (upd (addAll H (itemsL as kvs)) s.heap.objs.size (.lst (as.map V.ref))) { s with heap := h', toks := tk } := I2.take (h' := h') (t' := tk) (fun b ob _ e => e) (I.fpOk (Nat.le_refl _) (by rw [addAll_old _ _ _ (by rw [ek]; exact nl)]; exact fl)) ⟨by rw [List.length_map]; omega, as.map Value.ref, c, vals_refs as, by rw [← hacc, Array.toArray_toList]; exact hl⟩
  exact ⟨.ref s.heap.objs.size, _, I3, rfl, q as _ (by omega) nd fr fl nl⟩
end Y

set_option autoImplicit false
/-! list(d.items()) over trees -/
namespace Y
open PySem PySem.Spec PyProof.Rows L2 SX Z
open L2.DX (itemsO itemsO_ok)
theorem repA_items {F : PySem.W.Frag} {H H4 : Hp} (sm : Same H H4) : ∀ (as : List Addr) (ws : List (Key × V)) (kvs : List (DK × DT)), as.length = ws.length → RepK F H ws kvs → (∀ p ∈ itemsL as ws, H4 p.1 = some (.tup p.2)) → RepA F H4 (as.map V.ref) (kvs.map fun kv => .tup [dk kv.1, kv.2]) := by
  intro as
  induction as with
  | nil =>
    intro ws kvs hl t h
    cases t with
    | nil => exact .nil
    | cons rv t => simp at hl
  | cons b as ih =>
    intro ws kvs hl t h
    cases t with
    | nil => simp at hl
    | cons rv t => exact .cons (.tup (SqT.of (h (b, _) List.mem_cons_self)) (.cons (rep_dk _) (.cons (Rep.same sm rv) .nil))) (ih _ _ (by simpa using hl) t fun p hp => h p (List.mem_cons_of_mem _ hp))
theorem pe_items {X : Cx} {o : Expr} {apos cpos : Pos} {to : L2.TE} (ho : PE X o to) (hbase : attributeBase o "items" X.env (eval o X.env) = eval o X.env) (hline : (apos.endLine == cpos.line) = true) :
    PE X (.Call (.Attribute o "items" apos) [] [] cpos) (fun σ H Q => to σ H fun x H1 => rItemsK x [] H1 Q) := by
  refine ⟨fun pins s σ H Q I h => ?_⟩
  refine wpAny_Call_method0_late hbase hline (thn (ho.run pins s σ H _ I h) fun v s1 ⟨x, H1, I1, r1, q1⟩ => ?_)
  obtain ⟨a, kvs, rfl, _, hr, q⟩ := id q1
  obtain ⟨_, _, _, _, ob, _, _, e, ex, _⟩ := hr.ok I1.hok
  have rr := r1
  cases r1
  exact ⟨"dict", "dict.items", F.plainAttrs_dict, F.slot_dict_items, rfl, ⟨ob, e, ex.1⟩, fun b eb => by cases eb; exact ⟨ob, e, ex.2.1⟩, Calls.callWith_builtin rfl (PySem.evalArgs_none (mt_itemsK pins s1 σ H1 (.ref a) [] _ [] Q I1 rr .nil q1))⟩
section
variable {c : Ct} {ρ : EnvT} {σ : Sg} {Q : DT → Sg → Prop} {E : TX} {o : Expr} {p pos apos mpos : Pos} {x : DT} {kvs : List (DK × DT)}
theorem te_listIt [Calm c] (hg : GlS c "list") (hm : c.mg "list" = none) (h : TE c o ρ σ (fun x σ1 => ∃ kvs, DiT σ1 x kvs ∧ Q (.lst (kvs.map fun kv => .tup [dk kv.1, kv.2])) σ1) E)
    (hbase : ∀ env, attributeBase o "items" env (eval o env) = eval o env := by intro _; rfl) (hline : (apos.endLine == mpos.line) = true := by rfl)
    (he : ∀ env, starEach [Expr.Call (.Attribute o "items" apos) [] [] mpos] env = (false, eval (Expr.Call (.Attribute o "items" apos) [] [] mpos) env) :: starEach [] env := by intro _; rfl) (hpl : ∀ pos env, (backTo pos (starEach [] env)).any (·.1) = false := by intro _ _; rfl) :
    TE c (.Call (.Name "list" p) [.Call (.Attribute o "items" apos) [] [] mpos] [] pos) ρ σ Q E := ⟨fun X hX st H K w r xc Q' fo => by
  have hc := con_calm hX
  have hX' := hX
  cases hX'
  refine cE_of (pe_callTy (cr_listItems hc) hg hm (by exact bt_list) (pa_cons (pe_items cE_pe (hbase _) hline) pa_nil (he _)) (by decide) (by decide) (he _) (hpl _ _)) ?_
  refine h.run X hX st H K w r xc _ fun v x σ1 H1 K1 s1 w1 r1 ⟨kvs, hx, q⟩ => ?_
  obtain ⟨a, ws, rfl, q1, ra⟩ := hx.now w1 r1
  refine ⟨a, ws, rfl, rfl, q1, fun v hv => ?_⟩
  obtain ⟨g2, w2⟩ := w1.new (o := itemsO v a) hv
  have q2 : Rd (upd K1 v (itemsO v a)) a (.dK ws) := by
    rcases q1 with e | ⟨o, e⟩
    · exact .inl (by rw [upd_ne (ne_of_none e hv)]; exact e)
    · exact .inr ⟨o, by rw [upd_ne (ne_of_none e hv)]; exact e⟩
  refine ⟨v, a, ws, rfl, upd_same, q2, fun as l hl nd fr fl nl => ?_⟩
  have ek : (itemsL as ws).map (·.1) = as := by
    unfold itemsL
    exact List.map_fst_zip (by rw [List.length_map]; omega)
  obtain ⟨H3, g3, w3, ht⟩ := addAll_wd (itemsL as ws) _ _ w2 (by rw [ek]; exact nd) (fun z hz => fr _ (by rw [← ek]; exact List.mem_map.mpr ⟨z, hz, rfl⟩))
  obtain ⟨g4, w4⟩ := w3.new (o := .lst (as.map V.ref)) (by rw [addAll_old _ _ _ (by rw [ek]; exact nl)]; exact fl)
  exact fo _ _ σ1 _ _ (((s1.trans g2).trans g3).trans g4) w4 (.lst upd_same ((repA_items (g2.trans g3).b as ws kvs hl ra ht).same g4.b)) q⟩
end
end Y

/-! Yn: == and != of an instance and a value of a built-in type, either way round. -/
namespace PySem.W
open PySem PySem.Calls PyProof.Rows Builtin
open _root_.PySem.AutoSeq1 (wpAny_loadPart')
section
variable {prog : Program} {w : World} {M : Model} {A : Around} {E : Value → Shared → Prop} {s : Shared} {K : Frag} {x C f : Addr} {ox : Obj} {od : Option Obj}
end
section
variable {K : Frag} {C : Addr}
end
end PySem.W
namespace Y
open PySem PySem.Spec PyProof.Rows L2 SX Z
/-- the class is below no built-in type -/
structure BkC (K : PySem.W.Frag) (C : Addr) : Prop where
  up : ∀ T ∈ tys, PySem.W.subIn K (.ref C) (.type T) = some false
  dn : ∀ T ∈ tys, PySem.W.subIn K (.type T) (.ref C) = some false
/-- a tree of a built-in type -/
def bi : DT → Bool
  | .non => true | .bl _ => true | .int _ => true | .str _ => true | .lst _ => true | .tup _ => true | .dct _ => true
  | _ => false
section
variable {c : Ct} {σ : Sg} {y : DT} {C : Addr} {fs : List (Str × DT)} {k : Nat} {ps : List Str} {spec : TSpec} {b : Bool}
theorem bi_ty (h : bi y = true) : ∃ T, (∀ σ : Sg, tyT σ y = some T) ∧ T ∈ tys := by
  cases y <;> first | (cases h; done) | exact ⟨_, fun _ => rfl, by simp [tys]⟩
end
end Y
namespace PySem.W
open PySem PySem.Calls PyProof.Rows Builtin
section
variable {prog : Program} {w : World} {A : Around} {E : Value → Shared → Prop} {h : Heap} {g : Array GenState} {d : Drawn} {t : Nat} {os : OsState} {C x f : Addr} {b : Value} {B T : String} {bm : List Value} {K : Frag}
end
end PySem.W
namespace Y
open PySem PySem.Spec PyProof.Rows L2 SX Z
section
variable {c : Ct} {σ : Sg} {y : DT} {C : Addr} {fs : List (Str × DT)} {k : Nat} {ps : List Str} {spec : TSpec} {b : Bool}
end
end Y
namespace Y
open PySem PySem.Spec PyProof.Rows L2 SX Z
section
variable {c : Ct} {ρ : EnvT} {σ : Sg} {Q : DT → Sg → Prop} {E : TX} {e : Expr} {pos : Pos} {x : DT} {xs : List DT}
end
section
variable {c : Ct} {ρ : EnvT} {σ : Sg} {Q : DT → Sg → Prop} {E : TX} {a b : Expr} {pos p : Pos}
end
section
variable {c : Ct} {ρ : EnvT} {σ : Sg} {o : Expr} {p pos apos mpos : Pos} {x : DT} {kvs : List (DK × DT)}
theorem tv_listIt [Calm c] (hg : GlS c "list") (hm : c.mg "list" = none) (h : TV c o ρ σ x) (hx : DiT σ x kvs)
    (hbase : ∀ env, attributeBase o "items" env (eval o env) = eval o env := by intro _; rfl) (hline : (apos.endLine == mpos.line) = true := by rfl)
    (he : ∀ env, starEach [Expr.Call (.Attribute o "items" apos) [] [] mpos] env = (false, eval (Expr.Call (.Attribute o "items" apos) [] [] mpos) env) :: starEach [] env := by intro _; rfl) (hpl : ∀ pos env, (backTo pos (starEach [] env)).any (·.1) = false := by intro _ _; rfl) :
    TV c (.Call (.Name "list" p) [.Call (.Attribute o "items" apos) [] [] mpos] [] pos) ρ σ (.lst (kvs.map fun kv => .tup [dk kv.1, kv.2])) := ⟨fun q => te_listIt hg hm (h.to ⟨kvs, hx, q⟩) hbase hline he hpl⟩
end
end Y

/-! Yz: sorted(set(xs)), xs a list of texts. -/
namespace Y
open PySem PySem.Spec PyProof.Rows L2 SX Z
open PySem.Froz (SD sObj TxOk addTx tailTx)
def txt : Value → Str
  | .str k _ => k
  | _ => Str.empty
section
variable {P : Program} {w : World} {A : Around} {E : Value → Shared → Prop} {s : Shared}
end
end Y
namespace Y
open PySem PySem.Spec PyProof.Rows L2 SX Z
section
variable {c : Ct} {ρ : EnvT} {σ : Sg} {a : Expr} {pos p p2 q : Pos} {l : List (List Nat)} {Q : DT → Sg → Prop} {E : TX} {x : DT}
end
end Y

/-! Yoc: instances that change (cells): properties, methods, len; list.count, dict.clear. -/
namespace Y
open PySem PySem.Spec PyProof.Rows L2 SX Z
section
variable {c : Ct} {ρ : EnvT} {σ : Sg} {Q : DT → Sg → Prop} {E : TX} {e a o : Expr} {es : List Expr} {pos p apos : Pos} {d x : DT} {C : Addr} {fs : List (Str × DT)} {f m : Str} {k : Nat} {ps : List Str} {spec : TSpec} {D : EndT}
end
section
variable {c : Ct} {σ : Sg} {x y d : DT} {C : Addr} {fs gs : List (Str × DT)} {k : Nat} {ps : List Str} {spec : TSpec} {b : Bool} {n : Nat}
end
/-! ### list.count of texts -/
section
variable {c : Ct} {σ : Sg} {x : DT} {l : List (List Nat)} {k : List Nat}
end
section
variable {c : Ct} {ρ : EnvT} {σ : Sg} {Q : DT → Sg → Prop} {E : TX} {o : Expr} {pos apos : Pos} {C : Addr} {m : Str} {k : Nat} {ps : List Str} {spec : TSpec}
end
end Y

/-! Yst: name, *rest = a tuple; defs with *args, called as methods. -/
namespace Y
open PySem PySem.Spec PyProof.Rows L2 L2H SX Z HotX
section
variable {prog : Program} {w : World} {A : Around} {E : Value → Shared → Prop} {s : Shared}
end
section
variable {X : Cx}
end
section
variable {c : Ct} {ρ : EnvT} {σ : Sg} {D : EndT} {e : Expr} {x y : Str} {p1 p2 p3 pt pos : Pos} {k i j : Nat}
end

/-! ### defs with *args -/
structure FnV (P : Program) (w : World) (F : PySem.W.Frag) (mg : Str → Option Value) (base : Heap) (k : Nat) (f : Addr) (sp : Sp) : Prop where
  run : ∀ A : Around, Room k A → A.guards = some [] → ∀ outer s K, Env0 P w F mg base A outer s K → ∀ us vs, Vals vs us → ∀ Q E, sp vs K Q E →
    codeAny (model P w) A (.call (.ref f) ⟨us, []⟩) (CR (L2N.CX P w) outer P w K s Q E) s
section
variable {P : Program} {w : World} {F : PySem.W.Frag} {mg : Str → Option Value} {base : Heap} {k : Nat} {f : Addr} {fd : FuncData} {N : List Str} {p1 pv : Str} {spec : TSpec}
end
section
variable {X : Cx} {W : WX} {k : Nat} {f : Addr} {sp : Sp}
end
section
variable {c : Ct} {ρ : EnvT} {σ : Sg} {Q : DT → Sg → Prop} {E : TX} {a o : Expr} {es : List Expr} {pos apos p1 p2 : Pos} {C : Addr} {m x : Str} {k : Nat} {spec : TSpec} {ds : List DT}
end
end Y

/-! Ysl: sum(lists, []); k in a list of texts; d.clear(); a dict comprehension that is a cell. -/
namespace Y
open PySem PySem.Spec PyProof.Rows L2 L2H SX Z HotX
section
variable {prog : Program} {w : World} {A : Around} {R : Result → Shared → Prop} {I ax : Addr} {items : Array Value}
end
section
variable {prog : Program} {w : World} {A : Around} {E : Value → Shared → Prop} {s : Shared} {ax y : Addr} {items b0 : Array Value} {n0 : Nat}
end

inductive LstsOf (H : Hp) : List V → List (List V) → Prop
  | nil : LstsOf H [] []
  | cons {b : Addr} {xs : List V} {ws : List V} {xss : List (List V)} : H b = some (.lst xs) → LstsOf H ws xss → LstsOf H (.ref b :: ws) (xs :: xss)
section
variable {c : Ct} {σ : Sg}
end

/-! ### k in a list of texts -/
section
variable {c : Ct} {σ : Sg} {x : DT} {l : List (List Nat)} {k : List Nat}
end
/-! ### d.clear() -/
section
variable {c : Ct} {σ : Sg} {p : Addr} {kvs : List (DK × DT)} {P : DT → Sg → Prop}
end
/-! ### a dict comprehension that is a cell -/
section
variable {c : Ct} {ρ : EnvT} {σ : Sg} {tg iter kx vx : Expr} {scope : Scope} {pos : Pos} {own : List (Str × Nat)} {t : TgS} {Q : DT → Sg → Prop} {E : TX}
end
end Y

/-! Ymv: a < b <= c < d. -/
namespace Y
open PySem PySem.Spec PyProof.Rows L2 L2H SX Z HotX
section
variable {c : Ct} {ρ : EnvT} {σ : Sg} {a b : Expr} {x y z v : DT} {pos : Pos}
end

section
variable {c : Ct} {σ : Sg} {x : DT} {xs : List DT}
end
end Y

/-! Ylc: list(x) of a list, as a cell. -/
namespace Y
open PySem PySem.Spec PyProof.Rows L2 SX Z
section
variable {c : Ct} {ρ : EnvT} {σ : Sg} {Q : DT → Sg → Prop} {E : TX} {a : Expr} {p pos : Pos}
end
end Y

/-! Yox: == and != of instances that change. -/
namespace Y
open PySem PySem.Spec PyProof.Rows L2 SX Z
section
variable {c : Ct} {σ : Sg} {x y d : DT} {C : Addr} {fs gs : List (Str × DT)} {k : Nat} {ps : List Str} {spec : TSpec} {b : Bool} {n : Nat}
end
end Y

/-! Yoy: == and != of instances of two own classes; isinstance of an instance with another own class. -/
namespace PySem.W
open PySem PySem.Calls PyProof.Rows Builtin
section
variable {prog : Program} {w : World} {A : Around} {E : Value → Shared → Prop} {h : Heap} {g : Array GenState} {d : Drawn} {t : Nat} {os : OsState} {C D x f : Addr} {b : Value} {B : String} {bm : List Value} {K : Frag}
end
end PySem.W
namespace Y
open PySem PySem.Spec PyProof.Rows L2 SX Z
/-- D is another class than C, and not below it -/
structure OtC (K : PySem.W.Frag) (C D : Addr) : Prop where
  su : PySem.W.subIn K (.ref D) (.ref C) = some false
  ki : PySem.W.kitOne K (.ref D) (.ref C) = some false
section
variable {c : Ct} {σ : Sg} {x y d : DT} {C D : Addr} {fs gs : List (Str × DT)} {k : Nat} {ps : List Str} {spec : TSpec} {b : Bool} {n : Nat}
end
end Y
namespace Y
open PySem PySem.Spec L2 SX Z
section
variable {c : Ct} {ρ : EnvT} {σ : Sg} {D : EndT} {s : Stmt} {r : List Stmt}
end
end Y

/-! Ych: a < b <= c < d with any answer. -/
namespace Y
open PySem PySem.Spec PyProof.Rows L2 L2H SX Z HotX
section
variable {c : Ct} {ρ : EnvT} {σ : Sg} {a b : Expr} {x y z v : DT} {pos : Pos}
end
end Y

/-! Ytp: tuples put together; any slice of a tuple. -/
namespace Y
open PySem PySem.Spec L2 SX Z
section
variable {c : Ct} {σ : Sg} {xs ys : List DT}
end
end Y

/-! Yct: a < b <= c < d as a test. -/
namespace Y
open PySem PySem.Spec PyProof.Rows L2 L2H SX Z HotX
section
variable {c : Ct} {ρ : EnvT} {σ : Sg} {a b : Expr} {x y z v : DT} {pos : Pos}
end
end Y

/-! Yre: repr of a text, list.extend. -/
namespace Y
open PySem PySem.Spec L2 SX Z
section
variable {c : Ct} {σ : Sg} {x : DT} {xs ys : List DT} {s : List Nat} {p : Addr} {P : DT → Sg → Prop}
end
end Y

/-! Ycn: a chain of comparisons of any length that all hold, as a test. -/
namespace Y
open PySem PySem.Spec PyProof.Rows L2 L2H SX Z HotX
inductive LkT (X : Cx) : List CmpOp → List Expr → List (R2 × L2.TE) → Prop
  | last {op b r t} : OpR X (compareOp op) r → PE X b t → LkT X [op] [b] [(r, t)]
  | link {op b r t o' os b' bs q l} : OpR X (compareOp op) r → PE X b t → LkT X (o' :: os) (b' :: bs) (q :: l) → LkT X (op :: o' :: os) (b :: b' :: bs) ((r, t) :: q :: l)
/-- the links of a chain that holds -/
inductive TrC (c : Ct) (ρ : EnvT) (σ : Sg) : DT → List CmpOp → List Expr → Prop
  | last {x y o b} : TV c b ρ σ y → PO2 c (compareOp o) x y σ (.bl true) → TrC c ρ σ x [o] [b]
  | link {x y o b o' os b' bs} : TV c b ρ σ y → PO2 c (compareOp o) x y σ (.bl true) → TrC c ρ σ y (o' :: os) (b' :: bs) → TrC c ρ σ x (o :: o' :: os) (b :: b' :: bs)
section
variable {c : Ct} {ρ : EnvT} {σ : Sg}
end
end Y

/-! Ydg: d.get(k); a dict comprehension whose keys may come again. -/
namespace Y
open PySem PySem.Spec PyProof.Rows L2 SX Z
section
variable {c : Ct} {ρ : EnvT} {σ : Sg} {x d : DT} {k : DK} {kvs : List (DK × DT)} {tg iter kx vx : Expr} {scope : Scope} {pos : Pos} {own : List (Str × Nat)} {t : TgS}
end
end Y

/-! Ynd: x not in l, for a list of data. -/
namespace Y
open PySem PySem.Spec PyProof.Rows L2 SX Z
section
variable {c : Ct} {σ : Sg} {x : DT} {ys : List DT}
end
end Y

/-! Ysw: x[i], y[j] = a tuple, for lists that are cells. -/
namespace Y
open PySem PySem.Spec PyProof.Rows L2 SX Z
section
variable {c : Ct} {ρ : EnvT} {σ : Sg} {D : EndT} {e a b a2 b2 : Expr} {pos p1 p2 pt : Pos} {kt : Nat}
end
end Y

/-! Yls: list(text) as a cell. -/
namespace Y
open PySem PySem.Spec PyProof.Rows L2 SX Z
section
variable {c : Ct} {ρ : EnvT} {σ : Sg} {Q : DT → Sg → Prop} {E : TX} {a : Expr} {p pos : Pos}
end
end Y

/-! Yne: a list, perhaps one that changes, != []. -/
namespace Y
open PySem PySem.Spec PyProof.Rows L2 SX Z
section
variable {c : Ct} {σ : Sg} {x : DT} {xs : List DT}
end
end Y

/-! Ylr: a list comprehension with effects, given to a local name. -/
namespace Y
open PySem PySem.Spec L2 SX Z
section
variable {c : Ct} {ρ : EnvT} {σ : Sg} {D : EndT} {r : List Stmt} {tg iter elt : Expr} {scope : Scope} {pos : Pos} {own : List (Str × Nat)} {t : TgS} {x : Str} {p1 p2 : Pos}
end
end Y

/-! Yrb: repr of a bool, of None. -/
namespace Y
open PySem PySem.Spec L2 SX Z
section
variable {c : Ct} {σ : Sg}
end
end Y

/-! Yih: isinstance of the handled exception with a tuple of own classes. -/
namespace Y
open PySem PySem.Spec PyProof.Rows L2 L2H HotX SX Z
section
variable {c : Ct} {σ : Sg} {fs : List (Str × DT)} {C a : Addr} {oe : Obj} {d : Option Addr} {cs : List Addr}
end
end Y

/-! Ygf: a for loop in a generator's body. -/
namespace L2
open PySem PySem.Spec PyProof.Rows GenW
section
variable {M : Model} {A : Around} {R : GenEnd} {Y : Protocol} {n : Nat} {s₀ : Shared} {c : Code} {fs : List Frame} {s : Shared} {env : Env}
  {K : Flow → Sem PySem.Fin} {H : Value → Sem PySem.Fin} {gd : Bool → Bool} {lv : List Value → List Value}
end
section
variable {prog : Program} {w : World} {A : Around} {R : GenEnd} {Y : Protocol} {n : Nat} {s₀ : Shared} {fs : List Frame} {s : Shared} {env : Env}
end
section
variable {X : Cx} {tg : Expr}
end
end L2

/-! Ygl: list(g(..)) of a generator def g, over trees; exceptions without a context, no guard known. -/
namespace Y
open PySem PySem.Spec PyProof.Rows L2 L2H HotX SX Z GenW

/-! ### the context of the body -/
section
variable {P : Program} {w : World} {F : PySem.W.Frag} {mg : Str → Option Value} {base : Heap} {N ps : List Str} {qual : Str} {scope : Scope} {f : Addr} {cd : Value} {A : Around} {outer : List Env} {s s1 : Shared} {K K' : Hp} {E : XK} {pn : List (Addr × Obj)}
end

/-! ### what a call makes, what list(..) takes -/
/-- all is out and stands in S -/
def FinG (P : Program) (w : World) (outer : List Env) (K : Hp) (s : Shared) (S : Addr) (Q : List V → Hp → Prop) (s1 : Shared) : Prop :=
  ∃ K' ys acc cc, s1.os = s.os ∧ AllBare s1.gens ∧ Un (frs outer) [] K K' s.heap s1.heap ∧ HOk P w K' s1.heap ∧ K' S = none ∧ s1.heap.get? S = some (lstObj acc cc) ∧ Vals ys acc.toList ∧ ys.length ≤ sizeLine ∧ Q ys K'
theorem FinG.kept {P : Program} {w : World} {outer : List Env} {K : Hp} {s s1 : Shared} {S : Addr} {g : Nat} {Q : List V → Hp → Prop} (x : FinG P w outer K s S Q s1) {h : Heap} (k : ∀ b o, s1.heap.get? b = some o → h.get? b = some o) : FinG P w outer K s S Q { s1.setGen g .finished with heap := h } := by
  obtain ⟨K', ys, acc, cc, x1, x2, x3, x4, x5, x6, x7, x8, x9⟩ := x
  exact ⟨K', ys, acc, cc, x1, allBare_setGen x2 rfl, x3.trans (Un.kept k), x4.kept k, x5, k _ _ x6, x7, x8, x9⟩
/-- a run's end -/
abbrev EndG (P : Program) (w : World) (outer : List Env) (K : Hp) (s : Shared) (S a : Addr) (g : Nat) (Q : List V → Hp → Prop) (E : XK) : GenEnd := fun _ _ r s1 =>
  ((r = .ok (.ret .none) ∨ r = .ok .next) ∧ FinG P w outer K s S Q s1) ∨ ∃ e, r = .error e ∧ (L2N.CX P w outer K s E e s1 ∧ s1.heap.IsGen a g)
/-- a generator that has not begun -/
def MadeG (P : Program) (w : World) (k : Nat) (outer : List Env) (K : Hp) (s : Shared) (Q : List V → Hp → Prop) (E : XK) (u : Value) (s1 : Shared) : Prop :=
  ∃ (a : Addr) (g : Nat) (c : Code), u = .ref a ∧ (s.heap.objs.size ≤ a ∧ a < s1.heap.objs.size) ∧ s1.heap.IsGen a g ∧ s1.gens[g]? = some (.fresh c) ∧ (s1.os = s.os ∧ AllBare s1.gens ∧ s1.heap.NoLimit) ∧ (∀ b o, s.heap.get? b = some o → s1.heap.get? b = some o) ∧
    ∀ (A : Around) (S : Addr) (s2 : Shared), Room k A → A.guards = some [] → A.frames = some outer → s1.heap.objs.size ≤ S → (∀ b o, s1.heap.get? b = some o → s2.heap.get? b = some o) → (∃ cc, s2.heap.get? S = some (lstObj #[] cc)) → s2.os = s.os → AllBare s2.gens →
      Seg (model P w) A (EndG P w outer K s S a g Q E) (YItem s S a g) sizeLine s2 c ((model P w).den c) [] s2
section
variable {P : Program} {w : World} {outer : List Env} {K : Hp} {sc : Shared} {Q : List V → Hp → Prop} {E : XK} {A : Around}
end
end Y

/-! Ygm: the promise of a generator def, its rule, list(g(..)). -/
namespace Y
open PySem PySem.Spec PyProof.Rows L2 L2H HotX SX Z GenW
structure FnGen (P : Program) (w : World) (F : PySem.W.Frag) (mg : Str → Option Value) (base : Heap) (k : Nat) (f : Addr) (fd : FuncData) (ps : List Str) (sp : SpG) : Prop where
  len : ∀ vs K Q E, sp vs K Q E → vs.length = ps.length
  run : ∀ A : Around, Room k A → A.guards = some [] → ∀ outer s K, Env0 P w F mg base A outer s K → ∀ args us vs, Vals vs us → BindsTo s fd args (ps.zip us) → ∀ Q E, sp vs K Q E →
    codeAny (model P w) A (.call (.ref f) args) (fun r s1 => ∃ u, r = .ok (.ret u) ∧ MadeG P w k outer K s Q E u s1) s
section
variable {P : Program} {w : World} {F : PySem.W.Frag} {mg : Str → Option Value} {base : Heap} {k : Nat} {f : Addr} {fd : FuncData} {ps N : List Str} {sp : SpG}
end
end Y

/-! Ygn: generator defs over trees: their bodies, list(g(..)). -/
namespace Y
open PySem PySem.Spec PyProof.Rows L2 L2H SX Z GenW
def cG (X : Cx) (b : List Stmt) : TGn := fun D ys st K => ∀ (A : Around) (S : Addr) (ip : List (Addr × Obj)) (R : GenEnd) (n : Nat) (t0 : Shared) (c0 : Code) (fs : List Frame) (J : Flow → Sem PySem.Fin) (L : Value → Sem PySem.Fin) (gd : Bool → Bool) (lv : List Value → List Value) (s : Shared),
  GC X S ip A c0 fs gd → n + ys.length = sizeLine → GK X S ip A R c0 fs J L D → GI X S ip ys st K s → Seg (model X.prog X.w) A R (GY X S) n t0 c0 ((execs b X.env).wrap J L gd lv) fs s
structure FoG (c : Ct) (H : Hp) (σ : Sg) (K : Hp) (Q : List DT → Sg → Prop) (E : TX) (D : GEnds) : Prop where
  nx : ∀ vs ys σ' st' H' K', Gw H σ K H' σ' K' → Wd c.K H' σ' K' → RepA c.K H' vs ys → Q ys σ' → D.nx vs st' K'
  ex : ∀ cls dA x σ' st' H' K', Gw H σ K H' σ' K' → Wd c.K H' σ' K' → XRep c.K H' dA x → E cls x σ' → c.Wx cls dA st' K'
theorem FoG.next {c : Ct} {H H1 K K1 : Hp} {σ σ1 : Sg} {Q : List DT → Sg → Prop} {E : TX} {D : GEnds} (f : FoG c H σ K Q E D) (g : Gw H σ K H1 σ1 K1) : FoG c H1 σ1 K1 Q E D :=
  ⟨fun vs ys σ' st' H' K' g' => f.nx vs ys σ' st' H' K' (g.trans g'), fun cls dA x σ' st' H' K' g' => f.ex cls dA x σ' st' H' K' (g.trans g')⟩
theorem FoG.xc {c : Ct} {H K : Hp} {σ : Sg} {Q : List DT → Sg → Prop} {E : TX} {D : GEnds} {st : L2.St} (f : FoG c H σ K Q E D) : XC c H σ K st E := fun cls dA x σ' H' K' g w xr e => f.ex cls dA x σ' st H' K' g w xr e
/-- the rest of a generator's body; ys is out -/
structure GB (c : Ct) (b : List Stmt) (ρ : EnvT) (σ : Sg) (ys : List DT) (Q : List DT → Sg → Prop) (E : TX) : Prop where
  run : ∀ X, Con c X → X.env.scope.isCoroutine = false ∧ interactive X.env = false → ∀ st H K, Wd c.K H σ K → REnv c.K H ρ st → ∀ vs, RepA c.K H vs ys → ∀ D, FoG c H σ K Q E D → cG X b D vs st K
section
variable {c : Ct} {ρ : EnvT} {σ : Sg} {ys : List DT} {Q : List DT → Sg → Prop} {E : TX} {e iter : Expr} {rest : List Stmt} {pos px p2 p3 yp : Pos} {x : Str} {j : Nat}
end

/-! ### the promise, the rule, the call -/
section
variable {c : Ct} {ρ : EnvT} {σ : Sg} {Q : DT → Sg → Prop} {E : TX} {a : Expr} {es : List Expr} {pos p pos2 p2 : Pos}
end
end Y

/-! Yqi: a dict == an int. -/
namespace PySem.W
open PySem PySem.Calls PyProof.Rows Builtin
open _root_.PySem.AutoSeq1 (wpAny_loadPart')
end PySem.W
namespace Y
open PySem PySem.Spec PySem.Calls PyProof.Rows L2 SX Z
section
variable {c : Ct} {σ : Sg} {x y : DT} {kvs : List (DK × DT)} {i : Int}
end
end Y

/-! Yt2: a < b < c as a test. -/
namespace Y
open PySem PySem.Spec PyProof.Rows L2 L2H SX Z HotX
section
variable {c : Ct} {ρ : EnvT} {σ : Sg} {a b : Expr} {x y z : DT} {pos : Pos}
end
end Y

/-! Yab: abs of an int. -/
namespace Y
open PySem PySem.Spec L2 SX Z
end Y

/-! Ycl: an instance is called (a class with a plain __call__). -/
namespace PySem.W
open PySem PySem.Calls PyProof.Rows Builtin
section
variable {prog : Program} {w : World} {M : Model} {A : Around} {E : Value → Shared → Prop} {s : Shared} {K : Frag} {x C f : Addr} {ox : Obj} {od : Option Obj} {Q : Value → Shared → Prop}
end
end PySem.W
namespace Y
open PySem PySem.Spec PyProof.Rows L2 L2H SX Z
section
variable {c : Ct} {ρ : EnvT} {σ : Sg} {Q : DT → Sg → Prop} {E : TX} {a o : Expr} {es : List Expr} {pos : Pos} {C : Addr} {ps : List Str} {k : Nat} {spec : TSpec}
end
end Y

/-! Ysi: sorted of a list of ints. -/
namespace Y
open PySem PySem.Spec PyProof.Rows L2 SX Z
end Y

/-! Yth: an expression that only reads a dict that changes; constants of a class. -/
namespace Y
open PySem PySem.Spec PyProof.Rows L2 SX Z
def Sca : DT → Prop
  | .non => True
  | .bl _ => True
  | .int _ => True
  | .str _ => True
  | _ => False
theorem Sca.rep {F : PySem.W.Frag} {H H' : Hp} {d : DT} {v : V} (s : Sca d) (r : Rep F H v d) : Rep F H' v d := by
  cases r with
  | non => exact .non
  | bl b => exact .bl b
  | int i => exact .int i
  | str z => exact .str z
  | _ => exact s.elim
section
variable {c : Ct} {ρ : EnvT} {σ : Sg} {e : Expr} {d : DT}
end
end Y

/-! Ytx: great powers; list(d.values()); a number in a tuple; str(n), int(text), split; f-strings, also {n:>3}. -/
namespace YF
open PySem PySem.Builtin PySem.Builtin.Float PyProof.Rows PySem.Calls
section
variable {prog : Program} {w : World} {A : Around} {E : Value → Shared → Prop} {s : Shared}
end
end YF
namespace Y
open PySem PySem.Spec PyProof.Rows L2 SX Z
section
variable {c : Ct} {σ : Sg}
end
/-! ### list(d.values()) -/
section
variable {c : Ct} {ρ : EnvT} {σ : Sg} {o : Expr} {p pos apos mpos : Pos} {x : DT} {kvs : List (DK × DT)}
/-! ### texts of numbers, numbers of texts, split -/
end
/-! ### f-strings -/
section
variable {c : Ct} {ρ : EnvT} {σ : Sg} {e : Expr} {pos : Pos}
inductive TPs (c : Ct) (ρ : EnvT) (σ : Sg) : List Expr → List (List Nat) → Prop
  | nil : TPs c ρ σ [] []
  | cons {e : Expr} {es : List Expr} {l : List Nat} {ls : List (List Nat)} (h : TV c e ρ σ (.str l)) (r : TPs c ρ σ es ls) : TPs c ρ σ (e :: es) (l :: ls)
end
end Y

/-! Yu3: `x, y, z = a, b, c` where one of the names is read by a comprehension. -/
namespace Y
open PySem PySem.Spec PyProof.Rows L2 SX Z
section
variable {c : Ct} {ρ : EnvT} {σ : Sg} {D : EndT} {a b e3 : Expr} {pos : Pos} {x y z : Str}
end
/-! `x, y = 0, 1`: constants, folded -/
section
variable {c : Ct} {ρ : EnvT} {σ : Sg} {D : EndT} {a b : Expr} {pos : Pos} {x y : Str}
end
end Y

/-! Ymx: max(d), min(d) of a dict with texts as keys; `x, *y = a list`. -/
namespace Y
open PySem PySem.Spec PyProof.Rows L2 SX Z
section
variable {c : Ct} [Calm c] {σ : Sg} {x : DT} {kvs : List (DK × DT)} {l : List (List Nat)} {m : List Nat}
end
section
variable {c : Ct} {σ : Sg} {x : DT} {kvs : List (DK × DT)} {l : List (List Nat)} {m : List Nat}
end
/-! ### x, *y = a list -/
section
variable {prog : Program} {w : World} {A : Around} {E : Value → Shared → Prop} {s : Shared}
end
section
variable {X : Cx}
end
section
variable {c : Ct} {ρ : EnvT} {σ : Sg} {D : EndT} {e : Expr} {x y : Str} {p1 p2 p3 pt pos : Pos} {k i j : Nat}
end
end Y

/-! Yle: != of two lists of instances with an own __eq__, pairwise equal. -/
namespace GQ
open PySem PySem.SeqAt
open AutoSeq1 (wpAny_loadPart')
open MeetsSeq MeetsSeq2 MeetsSeq3 SeqRoads2
section
variable {prog : Program} {w : World} {A : Around} {R : Result → Shared → Prop}
end
end GQ
namespace Y
open PySem PySem.Spec PyProof.Rows L2 SX Z
section
variable {c : Ct} {σ : Sg} {C : Addr} {k : Nat} {ps : List Str} {spec : TSpec} {xs ys : List (List (Str × DT))}
end
end Y

/-! Ysn: text <= text, sign not in text; `d[k], y = u, v`. -/
namespace Y
open PySem PySem.Spec PyProof.Rows L2 SX Z
section
variable {c : Ct} {σ : Sg} {a b : List Nat}
end
section
variable {c : Ct} {ρ : EnvT} {σ : Sg} {D : EndT} {a b e : Expr} {pos p1 py pt : Pos} {kt : Nat} {y : Str}
end
end Y

/-! Ycv: a call of a value that is an own function; k in a list of ints; list.count of data. -/
namespace Y
open PySem PySem.Spec PyProof.Rows L2 L2H SX Z
section
variable {c : Ct} {ρ : EnvT} {σ : Sg} {Q : DT → Sg → Prop} {E : TX} {a o : Expr} {es : List Expr} {pos : Pos}
end
section
variable {c : Ct} {σ : Sg} {x : DT} {k : Int} {l : List Int}
end
section
variable {c : Ct} {σ : Sg} {x : DT} {ys : List DT}
end
end Y

/-! Yc2: a list comprehension with two fors, given to a name; [*a, x]. -/
namespace Y
open PySem PySem.Spec PyProof.Rows L2 SX Z
section
variable {J J1 : It} {n : Nat} {G : Hp → Prop} {Yh : Nat → Hp → V → Hp → Prop}
end
section
variable {c : Ct} {ρ : EnvT} {σ : Sg} {tg iter tg1 iter1 elt : Expr} {scope : Scope} {pos p1 : Pos} {own : List (Str × Nat)} {t t1 : TgS} {vs1 : List Nat} {x : Str} {D : EndT}
end
section
variable {c : Ct} {ρ : EnvT} {σ : Sg} {QA : List DT → Sg → Prop} {E : TX} {a : Expr} {es : List Expr} {p : Pos}
end
end Y

/-! Yc3: sorted(d) as a cell, list.reverse, a tuple that holds a cell: its repr, and freezing it. -/
namespace Y
open PySem PySem.Spec PyProof.Rows L2 SX Z
section
variable {c : Ct} {ρ : EnvT} {σ : Sg} {Q : DT → Sg → Prop} {E : TX} {a e : Expr} {p pos : Pos}
end
section
variable {c : Ct} {σ : Sg} {x : DT} {D : Addr} {xs : List DT} {P : DT → Sg → Prop}
end
end Y

/-! Ydl: d[k] op= e, del d[k] of a dict that is a cell. -/
namespace Y
open PySem PySem.Spec PyProof.Rows L2 SX Z
section
variable {c : Ct} {ρ : EnvT} {σ : Sg} {D : EndT} {e a b : Expr} {pos p1 : Pos} {p : Addr} {k : DK} {kvs : List (DK × DT)} {v y z : DT}
end
end Y

/-! Yld: != of two lists of dicts whose values are ints. -/
namespace GQ
open PySem PySem.SeqAt
open AutoSeq1 (wpAny_loadPart')
open MeetsSeq MeetsSeq2 MeetsSeq3 SeqRoads2
section
variable {prog : Program} {w : World} {A : Around} {R : Result → Shared → Prop}
end
end GQ
namespace Y
open PySem PySem.Spec PyProof.Rows L2 SX Z
section
variable {F : PySem.W.Frag} {H : Hp}
end
section
variable {c : Ct} {σ : Sg} {xs ys : List DT} {g : Nat → Bool}
end
end Y

/-! Yph: a, b = e1, e2 with plain local names, while an exception is handled. -/
namespace HotX
open PySem PySem.Spec PyProof.Rows L2 L2H
section
variable {X : Cx} {pos : Pos}
end
end HotX
namespace Y
open PySem PySem.Spec PyProof.Rows L2 L2H HotX SX Z
section
variable {c : Ct} {ρ : EnvT} {σ : Sg} {D : EndT} {a b : Expr} {x y : Str} {px py pt p2 pos : Pos}
end
end Y

/-! Yml: == and != of a value with a list that holds instances. -/
namespace PySem.W
open PySem PySem.Calls PyProof.Rows Builtin
open _root_.PySem.AutoSeq1 (wpAny_loadPart')
end PySem.W
namespace Y
open PySem PySem.Spec PySem.Calls PyProof.Rows L2 SX Z
section
variable {c : Ct} {σ : Sg} {y : DT} {xs ys : List DT}
end
end Y
namespace Y
open PySem PySem.Spec PyProof.Rows L2 SX Z
section
variable {c : Ct} {σ : Sg} {C : Addr} {k : Nat} {ps : List Str} {spec : TSpec} {xs ys : List (List (Str × DT))}
end
end Y
namespace Y
open PySem PySem.Spec PyProof.Rows L2 SX Z
section
variable {c : Ct} {σ : Sg} {i : Int}
end
end Y

/-! Yll: lists of lists that change: their cells together (gm), comprehensions that make them, freezing them, row[i] op= e; *= and //= of great ints. -/
namespace Y
open PySem PySem.Spec PyProof.Rows L2 SX Z
/-! ### great ints -/
section
variable {c : Ct} {σ : Sg} {i j : Int}
end
/-! ### the cells of several lists -/
structure FrP (σ : Sg) (pm : List (Addr × List DT)) : Prop where
  nd : (pm.map (·.1)).Nodup
  fr : ∀ p ∈ pm.map (·.1), σ p = none
theorem gm_addr {pm : List (Addr × List DT)} {i : Nat} {p : Addr} {xs ys : List DT} (h : pm[i]? = some (p, xs)) : (pm.set i (p, ys)).map (·.1) = pm.map (·.1) := by
  rw [List.map_set]
  apply List.ext_getElem?
  intro j
  rw [List.getElem?_set]
  split
  · next e =>
    subst e
    split
    · rw [List.getElem?_map, h]; rfl
    · next e2 => rw [List.getElem?_eq_none (by omega)]
  · rfl
theorem FrP.set {σ : Sg} {pm : List (Addr × List DT)} {i : Nat} {p : Addr} {xs ys : List DT} (h : FrP σ pm) (hi : pm[i]? = some (p, xs)) : FrP σ (pm.set i (p, ys)) := ⟨by rw [gm_addr hi]; exact h.nd, by rw [gm_addr hi]; exact h.fr⟩
section
variable {c : Ct} {ρ : EnvT} {σ : Sg} {D : EndT} {r : List Stmt} {e : Expr} {Q : DT → Sg → Prop} {E : TX}
end
section
variable {c : Ct} {ρ : EnvT} {σ : Sg} {D : EndT} {r : List Stmt} {tg iter elt : Expr} {scope : Scope} {pos : Pos} {own : List (Str × Nat)} {t : TgS} {x : Str} {p1 p2 : Pos}
end
section
variable {c : Ct} {ρ : EnvT} {σ : Sg} {Q : DT → Sg → Prop} {E : TX} {a b : Expr} {pos : Pos}
end
section
variable {c : Ct} {ρ : EnvT} {σ : Sg} {Q : DT → Sg → Prop} {E : TX} {tg iter elt : Expr} {scope : Scope} {pos : Pos} {own : List (Str × Nat)} {t : TgS}
end
section
variable {c : Ct} {ρ : EnvT} {σ : Sg} {E : TX} {tg e : Expr} {QA : List DT → Sg → Prop} {pos : Pos}
end
section
variable {c : Ct} {ρ : EnvT} {σ : Sg} {D' : EndT} {r : List Stmt} {tg iter kx vx : Expr} {scope : Scope} {pos : Pos} {own : List (Str × Nat)} {t : TgS} {x : Str} {p1 p2 : Pos}
end
/-! ### row[i] op= e -/
section
variable {c : Ct} {ρ : EnvT} {σ : Sg} {D : EndT} {e a b : Expr} {pos p1 : Pos} {p : Addr} {k : Nat} {xs : List DT} {u v z : Int}
end
end Y

/-! Ysd: dicts with whole numbers as keys: sorted(d), their entries. -/
namespace Y
open PySem PySem.Spec PyProof.Rows L2 SX Z
/-! entries -/
section
variable {c : Ct} {ρ : EnvT} {σ : Sg} {D' : EndT} {r : List Stmt} {tg iter kx vx ifx : Expr} {scope : Scope} {pos : Pos} {own : List (Str × Nat)} {t : TgS} {x : Str} {p1 p2 : Pos}
end
end Y

/-! Yxi: max(d) of a dict with ints as keys; min of a list of ints; == and != of such dicts. -/
namespace Y
open PySem PySem.Spec PyProof.Rows L2 SX Z
section
variable {c : Ct} [Calm c] {σ : Sg} {x : DT} {kvs : List (DK × DT)} {l : List Int} {m : Int}
end
/-! min of a list of ints -/
section
variable {c : Ct} [Calm c] {σ : Sg} {x : DT} {k : Int} {l : List Int}
end
/-! == and != of dicts with int keys and values -/
end Y

/-! Ycu: a[:i] of a list, as a cell. -/
namespace Y
open PySem PySem.Spec PyProof.Rows L2 SX Z
section
variable {c : Ct} {ρ : EnvT} {σ : Sg} {Q : DT → Sg → Prop} {E : TX} {a u : Expr} {p2 pos : Pos} {x : DT} {xs : List DT} {i : Int}
end
end Y

/-! Yix: text.index(sign). -/
namespace Y
open PySem PySem.Spec PyProof.Rows L2 SX Z
end Y

/-! Yme: dicts that change, whose keys are nested tuples of ints and texts. -/
namespace Y
open PySem PySem.Spec PyProof.Rows L2 SX Z
section
variable (F : PySem.W.Frag) (H : Hp)
mutual
/-- a value that is such a key, as far as is known for good -/
inductive NV : NestedKey → V → Prop
  | num (i : Int) : NV (.num i) (.int i)
  | text (x : Str) : NV (.text x) (.str x)
  | tup {a : Addr} {vs : List V} {ks : List NestedKey} : SqT F H a vs → NVs ks vs → NV (.tup ks) (.ref a)
inductive NVs : List NestedKey → List V → Prop
  | nil : NVs [] []
  | cons {k : NestedKey} {v : V} {ks : List NestedKey} {vs : List V} : NV k v → NVs ks vs → NVs (k :: ks) (v :: vs)
end
end
section
variable {F : PySem.W.Frag} {H H' K : Hp}
mutual
theorem NV.same (s : Same H H') : ∀ {k : NestedKey} {v : V}, NV F H k v → NV F H' k v
  | _, _, .num i => .num i
  | _, _, .text x => .text x
  | _, _, .tup h r => .tup (same_sqt s h) (NVs.same s r)
theorem NVs.same (s : Same H H') : ∀ {ks : List NestedKey} {vs : List V}, NVs F H ks vs → NVs F H' ks vs
  | _, _, .nil => .nil
  | _, _, .cons h r => .cons (NV.same s h) (NVs.same s r)
end
variable {X : Cx} {pins : List (Addr × Obj)} {st : L2.St} {s : Shared}
mutual
theorem NV.is (I : Inv X pins st K s) : ∀ {k : NestedKey} {v : V} {u : Value}, NV X.K K k v → RelV v u → NestedIs s.heap k u
  | _, _, _, .num i, r => by
    obtain ⟨t, rfl⟩ := (show ∃ t, _ = Value.int i t from r)
    exact .int i t
  | _, _, _, .text x, r => by
    obtain ⟨t, rfl⟩ := (show ∃ t, _ = Value.str x t from r)
    exact .text x t
  | _, _, _, .tup (a := a) h q, r => by
    obtain rfl := (show _ = Value.ref a from r)
    obtain ⟨its, rv, ⟨o, ho, hc, n, hd⟩, _⟩ := I.tuple h
    exact .tup ho hc hd (by simpa using NVs.is I q rv)
theorem NVs.is (I : Inv X pins st K s) : ∀ {ks : List NestedKey} {vs : List V} {us : List Value}, NVs X.K K ks vs → Vals vs us → NestedAll s.heap ks us
  | _, _, _, .nil, r => by cases r; exact .nil
  | _, _, _, .cons h q, r => by
    cases r with
    | cons r1 r2 => exact .cons (NV.is I h r1) (NVs.is I q r2)
end
end
section
variable {c : Ct} {ρ : EnvT} {σ : Sg} {e a b : Expr} {pos : Pos} {p : Addr} {x y d : DT} {k : NestedKey} {kvs : List (NestedKey × DT)} {Q : DT → Sg → Prop} {E : TX} {D : EndT} {p1 : Pos}
end
end Y

/-! Yod: dicts whose keys are of mixed kinds: texts, None, bools, tuples of texts. -/
namespace OdX
open PySem PySem.Spec PyProof.Rows
section
variable {prog : Program} {w : World} {A : Around} {E : Value → Shared → Prop} {s : Shared}
theorem od_eq {x y : NestedKey} {u v : Value} {Q : Bool → Shared → Prop} (hu : A.units + 8 < cLine) (hx : NestedIs s.heap x u) (hy : NestedIs s.heap y v) (dx : x.depth ≤ 8) (dy : y.depth ≤ 8) (ne : x ≠ y) (h : Q false s) : wpAny (model prog w) A (eqBool u v) Q E s :=
  eqAt_key x y A s _ _ hx hy (by omega) _ _ _ _ (by rw [← NestedKey.decide_eq, decide_eq_false ne]; exact h)
/-- no stored key is the key k -/
def Miss (h : Heap) (k : NestedKey) (es : Array DictEntry) : Prop := ∀ e ∈ es.toList, ∃ k', NestedIs h k' e.key ∧ k'.depth ≤ 8 ∧ k' ≠ k
theorem Miss.at {h : Heap} {k : NestedKey} {es : Array DictEntry} (m : Miss h k es) {i : Nat} {e : DictEntry} (he : es[i]? = some e) : ∃ k', NestedIs h k' e.key ∧ k'.depth ≤ 8 ∧ k' ≠ k := m e (Array.mem_toList_iff.mpr (Array.mem_of_getElem? he))
theorem od_tells {k : NestedKey} {key : Value} {stored : List Value} {Q : Bool → Shared → Prop} (hkey : NestedIs s.heap k key) (dk : k.depth ≤ 8) (hst : ∀ v ∈ stored, ∃ k', NestedIs s.heap k' v ∧ k'.depth ≤ 8) (h : Q false s) : wpAny (model prog w) A (tableMayTell key stored) Q E s := by
  unfold tableMayTell
  split
  · exact wpAny_pure h
  · refine wpAny_bind (quiet_key k _ 8 s hkey dk A E _ ?_)
    simp only [Bool.not_true, Bool.false_eq_true, if_false]
    refine wpAny_bind ?_
    refine wpAny_forIn_list _ (fun rest r s' => s' = s ∧ r = (none, ()) ∧ ∀ v ∈ rest, ∃ k', NestedIs s.heap k' v ∧ k'.depth ≤ 8) _ ?_ ?_ _ _ ⟨rfl, rfl, hst⟩
    · rintro x rest r s' ⟨rfl, rfl, hr⟩
      obtain ⟨k', hb, db⟩ := hr x List.mem_cons_self
      refine wpAny_bind (quiet_key k' _ 8 s' hb db A E _ ?_)
      simp only [Bool.not_true, Bool.false_eq_true, if_false]
      exact wpAny_pure ⟨rfl, rfl, fun v hv => hr v (List.mem_cons_of_mem _ hv)⟩
    · rintro r s' ⟨rfl, rfl, _⟩
      exact wpAny_pure h
theorem od_plain {d : Addr} {k : NestedKey} {key : Value} {o : Obj} {es : Array DictEntry} {ep : Nat} {hh : Int} {pl : List Nat} {Q : Option Nat → Shared → Prop} (hu : A.units + 8 < cLine) (hkey : NestedIs s.heap k key) (dk : k.depth ≤ 8) (ho : s.heap.get? d = some o) (hd : o.data = .dict es ep) (m : Miss s.heap k es) (h : Q none s) :
    wpAny (model prog w) A (dictWalkPlain d key hh es pl) Q E s := by
  unfold dictWalkPlain
  refine wpAny_bind ?_
  refine wpAny_forIn_list _ (fun rest b s' => s' = s ∧ b = (none, ())) _ ?_ ?_ _ _ ⟨rfl, rfl⟩
  · rintro x rest b s' ⟨rfl, rfl⟩
    cases he : es[x]? with
    | none => exact wpAny_pure ⟨rfl, rfl⟩
    | some e =>
      obtain ⟨k', hk', dk', ne⟩ := m.at he
      dsimp only
      by_cases hc : (e.hash == hh) = true
      · rw [if_pos hc]
        refine wpAny_bind (wpAny_dictEpoch ho hd (wpAny_bind (od_eq hu hk' hkey dk' dk ne (wpAny_bind (wpAny_dictEpoch ho hd ?_)))))
        show wpAny _ _ (if (ep != ep) = true then _ else _) _ E _
        rw [if_neg (by simp)]
        exact wpAny_bind (wpAny_rule (wpAny_pure ⟨rfl, rfl⟩))
      · rw [if_neg hc]
        exact wpAny_pure ⟨rfl, rfl⟩
  · rintro b s' ⟨rfl, rfl⟩
    exact wpAny_pure h
theorem od_find {d : Addr} {k : NestedKey} {key : Value} {o : Obj} {es : Array DictEntry} {ep : Nat} {hh : Int} {Q : Option Nat → Shared → Prop} (hu : A.units + 8 < cLine) (hkey : NestedIs s.heap k key) (dk : k.depth ≤ 8) (ho : s.heap.get? d = some o) (hd : o.data = .dict es ep) (m : Miss s.heap k es) (h : Q none s) :
    wpAny (model prog w) A (dictFind d key hh) Q E s := by
  have hst : ∀ v ∈ (placesWithHash es.size (fun i => es[i]?.map (·.hash)) hh).filterMap (fun i => es[i]?.map (·.key)), ∃ k', NestedIs s.heap k' v ∧ k'.depth ≤ 8 := by
    intro v hv
    obtain ⟨i, _, hi⟩ := List.mem_filterMap.mp hv
    cases hei : es[i]? with
    | none => rw [hei] at hi; cases hi
    | some e =>
      rw [hei] at hi
      obtain rfl : e.key = v := by simpa using hi
      obtain ⟨k', h1, h2, _⟩ := m.at hei
      exact ⟨k', h1, h2⟩
  have gen : ∀ st : List Value, (∀ v ∈ st, ∃ k', NestedIs s.heap k' v ∧ k'.depth ≤ 8) → ∀ {Q2 : Bool → Shared → Prop}, Q2 false s → wpAny (model prog w) A (if (st == [key]) = true then pure false else tableMayTell key st) Q2 E s := fun st h1 Q2 q => by
    split
    · exact wpAny_pure q
    · exact od_tells hkey dk h1 q
  unfold dictFind
  try with_reducible refine wpAny_holding ?_
  refine wpAny_bind (wpAny_dictEntries ho hd ?_)
  cases k with
  | none =>
    cases hkey
    dsimp only
    by_cases hp : ((Value.none :: (placesWithHash es.size (fun i => es[i]?.map (·.hash)) hh).filterMap (fun i => es[i]?.map (·.key))).all carriedByValue) = true
    · rw [if_pos hp]
      exact od_plain hu .none dk ho hd m h
    · rw [if_neg hp]
      by_cases hone : (((placesWithHash es.size (fun i => es[i]?.map (·.hash)) hh).filterMap (fun i => es[i]?.map (·.key))) == [Value.none]) = true <;>
      (first | rw [if_pos hone] | rw [if_neg hone]) <;> (first | refine wpAny_bind (wpAny_pure ?_) | refine wpAny_bind (od_tells .none dk hst ?_)) <;> (
        rw [if_neg (by simp)]
        refine wpAny_bind ?_
        refine wpAny_forIn_list _ (fun rest b s' => s' = s ∧ b = (none, none)) _ ?_ ?_ _ _ ⟨rfl, rfl⟩
        · rintro x rest b s' ⟨rfl, rfl⟩
          cases he : es[x]? with
          | none => exact wpAny_pure ⟨rfl, rfl⟩
          | some e =>
            obtain ⟨k', hk', dk', ne⟩ := m.at he
            dsimp only
            by_cases hc : (e.hash == hh) = true
            · rw [if_pos hc]
              refine wpAny_bind (wpAny_dictEpoch ho hd (wpAny_bind (od_eq hu hk' .none dk' dk ne (wpAny_bind (wpAny_dictEpoch ho hd ?_)))))
              show wpAny _ _ (if (ep != ep) = true then _ else _) _ E _
              rw [if_neg (by simp)]
              simp only [Bool.false_eq_true, if_false]
              refine wpAny_bind (wpAny_rule ?_)
              first | rw [if_neg (by simp)] | skip
              first
                | exact wpAny_pure ⟨rfl, rfl⟩
                | exact wpAny_bind (wpAny_pure (wpAny_pure ⟨rfl, rfl⟩))
            · rw [if_neg hc]
              exact wpAny_pure ⟨rfl, rfl⟩
        · rintro b s' ⟨rfl, rfl⟩
          exact wpAny_pure h)
  | num i =>
    cases hkey with
    | bool ebb =>
      rename_i b
      dsimp only
      by_cases hp : ((Value.bool b :: (placesWithHash es.size (fun i => es[i]?.map (·.hash)) hh).filterMap (fun i => es[i]?.map (·.key))).all carriedByValue) = true
      · rw [if_pos hp]
        exact od_plain hu (.bool ebb) dk ho hd m h
      · rw [if_neg hp]
        by_cases hone : (((placesWithHash es.size (fun i => es[i]?.map (·.hash)) hh).filterMap (fun i => es[i]?.map (·.key))) == [Value.bool b]) = true <;>
        (first | rw [if_pos hone] | rw [if_neg hone]) <;> (first | refine wpAny_bind (wpAny_pure ?_) | refine wpAny_bind (od_tells (.bool ebb) dk hst ?_)) <;> (
          rw [if_neg (by simp)]
          refine wpAny_bind ?_
          refine wpAny_forIn_list _ (fun rest b s' => s' = s ∧ b = (none, none)) _ ?_ ?_ _ _ ⟨rfl, rfl⟩
          · rintro x rest b s' ⟨rfl, rfl⟩
            cases he : es[x]? with
            | none => exact wpAny_pure ⟨rfl, rfl⟩
            | some e =>
              obtain ⟨k', hk', dk', ne⟩ := m.at he
              dsimp only
              by_cases hc : (e.hash == hh) = true
              · rw [if_pos hc]
                refine wpAny_bind (wpAny_dictEpoch ho hd (wpAny_bind (od_eq hu hk' (.bool ebb) dk' dk ne (wpAny_bind (wpAny_dictEpoch ho hd ?_)))))
                show wpAny _ _ (if (ep != ep) = true then _ else _) _ E _
                rw [if_neg (by simp)]
                simp only [Bool.false_eq_true, if_false]
                refine wpAny_bind (wpAny_rule ?_)
                first | rw [if_neg (by simp)] | skip
                first
                  | exact wpAny_pure ⟨rfl, rfl⟩
                  | exact wpAny_bind (wpAny_pure (wpAny_pure ⟨rfl, rfl⟩))
              · rw [if_neg hc]
                exact wpAny_pure ⟨rfl, rfl⟩
          · rintro b s' ⟨rfl, rfl⟩
            exact wpAny_pure h)
    | int _ tt =>
      dsimp only
      by_cases hp : ((Value.int i tt :: (placesWithHash es.size (fun i => es[i]?.map (·.hash)) hh).filterMap (fun i => es[i]?.map (·.key))).all carriedByValue) = true
      · rw [if_pos hp]
        exact od_plain hu (.int i tt) dk ho hd m h
      · rw [if_neg hp]
        by_cases hone : (((placesWithHash es.size (fun i => es[i]?.map (·.hash)) hh).filterMap (fun i => es[i]?.map (·.key))) == [Value.int i tt]) = true <;>
        (first | rw [if_pos hone] | rw [if_neg hone]) <;> (first | refine wpAny_bind (wpAny_pure ?_) | refine wpAny_bind (od_tells (.int i tt) dk hst ?_)) <;> (
          rw [if_neg (by simp)]
          refine wpAny_bind ?_
          refine wpAny_forIn_list _ (fun rest b s' => s' = s ∧ b = (none, none)) _ ?_ ?_ _ _ ⟨rfl, rfl⟩
          · rintro x rest b s' ⟨rfl, rfl⟩
            cases he : es[x]? with
            | none => exact wpAny_pure ⟨rfl, rfl⟩
            | some e =>
              obtain ⟨k', hk', dk', ne⟩ := m.at he
              dsimp only
              by_cases hc : (e.hash == hh) = true
              · rw [if_pos hc]
                refine wpAny_bind (wpAny_dictEpoch ho hd (wpAny_bind (od_eq hu hk' (.int i tt) dk' dk ne (wpAny_bind (wpAny_dictEpoch ho hd ?_)))))
                show wpAny _ _ (if (ep != ep) = true then _ else _) _ E _
                rw [if_neg (by simp)]
                simp only [Bool.false_eq_true, if_false]
                refine wpAny_bind (wpAny_rule ?_)
                first | rw [if_neg (by simp)] | skip
                first
                  | exact wpAny_pure ⟨rfl, rfl⟩
                  | exact wpAny_bind (wpAny_pure (wpAny_pure ⟨rfl, rfl⟩))
              · rw [if_neg hc]
                exact wpAny_pure ⟨rfl, rfl⟩
          · rintro b s' ⟨rfl, rfl⟩
            exact wpAny_pure h)
  | text y =>
    cases hkey with
    | text _ tt =>
      dsimp only
      by_cases hs : (es.all fun e => isExactStrKey e.key) = true
      · rw [if_pos hs]
        unfold foundByValue
        have hf : es.findIdx? (fun e => e.key.isStr y) = none := by
          rw [Array.findIdx?_eq_none_iff]
          intro e he
          obtain ⟨k', hk', _, ne⟩ := m e (Array.mem_toList_iff.mpr he)
          cases hq : e.key.isStr y with
          | false => rfl
          | true =>
            exfalso
            have hz : ∀ v : Value, NestedIs s.heap k' v → v.isStr y = true → k' = .text y := fun v h1 h2 => by
              cases h1 with
              | none => cases h2
              | bool _ => cases h2
              | int _ _ => cases h2
              | text z u =>
                have h2 : (z == y) = true := h2
                rw [eq_of_beq h2]
              | tup _ _ _ _ => cases h2
            exact ne (hz _ hk' hq)
        rw [hf]
        exact wpAny_pure h
      · rw [if_neg hs]
        by_cases hp : ((Value.str y tt :: (placesWithHash es.size (fun i => es[i]?.map (·.hash)) hh).filterMap (fun i => es[i]?.map (·.key))).all carriedByValue) = true
        · rw [if_pos hp]
          exact od_plain hu (.text y tt) dk ho hd m h
        · rw [if_neg hp]
          by_cases hone : (((placesWithHash es.size (fun i => es[i]?.map (·.hash)) hh).filterMap (fun i => es[i]?.map (·.key))) == [Value.str y tt]) = true <;>
          (first | rw [if_pos hone] | rw [if_neg hone]) <;> (first | refine wpAny_bind (wpAny_pure ?_) | refine wpAny_bind (od_tells (.text y tt) dk hst ?_)) <;> (
            rw [if_neg (by simp)]
            refine wpAny_bind ?_
            refine wpAny_forIn_list _ (fun rest b s' => s' = s ∧ b = (none, none)) _ ?_ ?_ _ _ ⟨rfl, rfl⟩
            · rintro x rest b s' ⟨rfl, rfl⟩
              cases he : es[x]? with
              | none => exact wpAny_pure ⟨rfl, rfl⟩
              | some e =>
                obtain ⟨k', hk', dk', ne⟩ := m.at he
                dsimp only
                by_cases hc : (e.hash == hh) = true
                · rw [if_pos hc]
                  refine wpAny_bind (wpAny_dictEpoch ho hd (wpAny_bind (od_eq hu hk' (.text y tt) dk' dk ne (wpAny_bind (wpAny_dictEpoch ho hd ?_)))))
                  show wpAny _ _ (if (ep != ep) = true then _ else _) _ E _
                  rw [if_neg (by simp)]
                  simp only [Bool.false_eq_true, if_false]
                  refine wpAny_bind (wpAny_rule ?_)
                  first | rw [if_neg (by simp)] | skip
                  first
                    | exact wpAny_pure ⟨rfl, rfl⟩
                    | exact wpAny_bind (wpAny_pure (wpAny_pure ⟨rfl, rfl⟩))
                · rw [if_neg hc]
                  exact wpAny_pure ⟨rfl, rfl⟩
            · rintro b s' ⟨rfl, rfl⟩
              exact wpAny_pure h)
  | tup ks =>
    have hk0 := hkey
    cases hkey with
    | tup h1 h2 h3 h4 =>
      rename_i a o' vs n
      have hany : ¬ (es.any fun e => e.key == Value.ref a && e.hash != hh) = true := by
        rw [← Array.any_toList, List.any_eq_true]
        rintro ⟨e, hin, hc⟩
        simp only [Bool.and_eq_true, beq_iff_eq] at hc
        obtain ⟨k', hk', _, ne⟩ := m e hin
        rw [hc.1] at hk'
        exact ne (NestedIs.inj _ _ _ hk' hk0)
      dsimp only
      by_cases hp : ((Value.ref a :: (placesWithHash es.size (fun i => es[i]?.map (·.hash)) hh).filterMap (fun i => es[i]?.map (·.key))).all carriedByValue) = true
      · rw [if_pos hp]
        exact od_plain hu hk0 dk ho hd m h
      · rw [if_neg hp]
        rw [if_neg hany]
        by_cases hone : (((placesWithHash es.size (fun i => es[i]?.map (·.hash)) hh).filterMap (fun i => es[i]?.map (·.key))) == [Value.ref a]) = true <;>
        (first | rw [if_pos hone] | rw [if_neg hone]) <;> (first | refine wpAny_bind (wpAny_pure ?_) | refine wpAny_bind (od_tells hk0 dk hst ?_)) <;> (
          rw [if_neg (by simp)]
          refine wpAny_bind ?_
          refine wpAny_forIn_list _ (fun rest b s' => s' = s ∧ b = (none, none)) _ ?_ ?_ _ _ ⟨rfl, rfl⟩
          · rintro x rest b s' ⟨rfl, rfl⟩
            cases he : es[x]? with
            | none => exact wpAny_pure ⟨rfl, rfl⟩
            | some e =>
              obtain ⟨k', hk', dk', ne⟩ := m.at he
              dsimp only
              by_cases hc : (e.hash == hh) = true
              · rw [if_pos hc]
                refine wpAny_bind (wpAny_dictEpoch ho hd (wpAny_bind (od_eq hu hk' hk0 dk' dk ne (wpAny_bind (wpAny_dictEpoch ho hd ?_)))))
                show wpAny _ _ (if (ep != ep) = true then _ else _) _ E _
                rw [if_neg (by simp)]
                simp only [Bool.false_eq_true, if_false]
                refine wpAny_bind (wpAny_rule ?_)
                first | rw [if_neg (by simp)] | skip
                first
                  | exact wpAny_pure ⟨rfl, rfl⟩
                  | exact wpAny_bind (wpAny_pure (wpAny_pure ⟨rfl, rfl⟩))
              · rw [if_neg hc]
                exact wpAny_pure ⟨rfl, rfl⟩
          · rintro b s' ⟨rfl, rfl⟩
            exact wpAny_pure h)
/-- the entry of a key -/
def entO (w : World) (x : NestedKey × Value × Value) : DictEntry := ⟨x.1.hash w, x.2.1, x.2.2⟩
/-- at d stands a dict with these keys and values, in this order -/
def DictO (w : World) (h : Heap) (d : Addr) (xs : List (NestedKey × Value × Value)) : Prop := ∃ o es ep, h.get? d = some o ∧ o.ExactDict ∧ o.data = .dict es ep ∧ es.toList = xs.map (entO w) ∧ (∀ x ∈ xs, NestedIs h x.1 x.2.1 ∧ x.1.depth ≤ 8) ∧ (xs.map (·.1)).Nodup
theorem od_keeps {h h' : Heap} {k : NestedKey} {v : Value} {d : Addr} {o : Obj} {es : Array DictEntry} {ep : Nat} (x : NestedIs h k v) (ho : h.get? d = some o) (hd : o.data = .dict es ep) (hs : Heap.SameBut d h h') : NestedIs h' k v := NestedIs.at (fun b ob vs n hb hc => by
  refine (hs.2 b fun e => ?_).trans hb
  subst e
  rw [ho] at hb
  cases hb
  rw [hd] at hc
  cases hc) k _ x
theorem od_set {d : Addr} {k : NestedKey} {key v : Value} {xs : List (NestedKey × Value × Value)} {Q : Unit → Shared → Prop} (hu : A.units + 8 < cLine) (hkey : NestedIs s.heap k key) (dk : k.depth ≤ 8) (hm : DictO w s.heap d xs) (hn : k ∉ xs.map (·.1)) (hsz : xs.length ≤ sizeLine)
    (hQ : ∀ h', DictO w h' d (xs ++ [(k, key, v)]) → Heap.SameBut d s.heap h' → Q () { s with heap := h', toks := s.toks + k.draws }) : wpAny (model prog w) A (dictSet d key v) Q E s := by
  obtain ⟨o, es, ep, ho, hc, hd, he, his, nd⟩ := hm
  have m : Miss s.heap k es := fun e hin => by
    rw [he] at hin
    obtain ⟨x, hx, rfl⟩ := List.mem_map.mp hin
    exact ⟨x.1, (his x hx).1, (his x hx).2, fun z => hn (z ▸ List.mem_map.mpr ⟨x, hx, rfl⟩)⟩
  have lz : es.size = xs.length := by rw [← Array.length_toList, he, List.length_map]
  unfold dictSet
  try with_reducible refine wpAny_holding ?_
  refine wpAny_bind (pyHash_key k _ _ _ _ hkey (by omega) ?_)
  unfold dictSetHashed
  try with_reducible refine wpAny_holding ?_
  refine wpAny_bind (od_find (s := { s with toks := s.toks + k.draws }) hu hkey dk ho hd m ?_)
  refine wpAny_bind (wpAny_rule (wpAny_updateDictKeys (hz := by omega) (s := { s with toks := s.toks + k.draws }) ho hd (hQ _ ⟨_, _, ep + 1, Heap.get?_update_self _ ho (Obj.isFreed_of_dict (Obj.data_mapDictKeys hd _)),
      hc.mapDictKeys _, Obj.data_mapDictKeys hd _, ?_, ?_, ?_⟩ (Heap.SameBut.update ..))))
  · simp [he, entO]
  · intro x hx
    rcases List.mem_append.mp hx with hx | hx
    · exact ⟨od_keeps (his x hx).1 ho hd (Heap.SameBut.update ..), (his x hx).2⟩
    · rw [List.mem_singleton.mp hx]
      exact ⟨od_keeps hkey ho hd (Heap.SameBut.update ..), dk⟩
  · rw [List.map_append, List.nodup_append]
    refine ⟨nd, by simp, ?_⟩
    intro x hx y hy
    simp only [List.map_cons, List.map_nil, List.mem_singleton] at hy
    subst hy
    exact fun e => hn (e ▸ hx)
/-- dict(xs) of a list of pairs, no key twice -/
theorem od_dict {a : Addr} {items : Array Value} {Ts : Nat → Addr} {prs : List (NestedKey × Value × Value)} {Q : Value → Shared → Prop} (hh : A.handled = none) (hu : A.in1.in1.units + 8 < cLine) (hp : PlainSeq "list" s.heap a items) (hi : PairItems s.heap items Ts (prs.map fun x => (x.2.1, x.2.2)))
    (hk : ∀ x ∈ prs, NestedIs s.heap x.1 x.2.1 ∧ x.1.depth ≤ 8) (nd : (prs.map (·.1)).Nodup) (hsz : prs.length ≤ sizeLine)
    (h : ∀ h' tk, DictO w h' s.heap.objs.size prs → (∀ b o, s.heap.get? b = some o → h'.get? b = some o) → Q (.ref s.heap.objs.size) { s with heap := h', toks := tk }) :
    wpAny (model prog w) A (call (.type "dict") [.ref a]) Q E s := by
  have len : (prs.map fun x => (x.2.1, x.2.2)).length = prs.length := List.length_map _
  refine call_dict_arg (PairArg.list a items Ts (prs.map fun x => (x.2.1, x.2.2))) ⟨hp, hi⟩ fun s₁ hs₁ hdf ok₁ => ?_
  have hd1 : s₁.heap.get? s.heap.objs.size = some { cls := .type "dict", data := .dict #[] } := by rw [hs₁]; exact Heap.get?_push_size _ rfl
  have old : ∀ b o, s.heap.get? b = some o → s₁.heap.get? b = some o := fun b o e => by rw [hs₁]; exact Heap.get?_push_of_some _ e
  have g1 : ∀ (h' : Heap) tk, { s₁ with heap := h', toks := tk } = ({ s with heap := h', toks := tk } : Shared) := fun h' tk => by rw [hs₁]
  have keys : ∀ h' : Heap, (∀ b o, b ≠ s.heap.objs.size → s₁.heap.get? b = some o → h'.get? b = some o) → ∀ x ∈ prs, NestedIs h' x.1 x.2.1 ∧ x.1.depth ≤ 8 := fun h' k x hx => ⟨NestedIs.at (fun b o vs n e hq => k b o (Nat.ne_of_lt (Heap.lt_size e)) (old b o e)) _ _ (hk x hx).1, (hk x hx).2⟩
  refine updateFrom_arg (A := A.in1) (d := s.heap.objs.size) (Tab := fun i h => DictO w h s.heap.objs.size (prs.take i) ∧ ∀ b o, b ≠ s.heap.objs.size → s₁.heap.get? b = some o → h.get? b = some o) (PairArg.list a items Ts (prs.map fun x => (x.2.1, x.2.2))) .none hh ok₁ hdf ⟨⟨_, #[], 0, hd1, ⟨rfl, rfl, rfl⟩, rfl, rfl, (fun _ h => nomatch h), List.nodup_nil⟩, fun _ _ _ e => e⟩ (fun i h tb => ?_) ?_ ?_ ?_
  · obtain ⟨⟨o, _, _, e, _⟩, _⟩ := tb
    exact Heap.lt_size e
  · rintro i h1 h2 wr' hdw hw ⟨⟨o, es, ep, e1, e2, e3, e4, e5, e6⟩, kp⟩ k
    have kp' : ∀ b o, b ≠ s.heap.objs.size → s₁.heap.get? b = some o → h2.get? b = some o := fun b ob hb e => k b ob (fun hm => by
      rcases hw b hm with z | z
      · exact nomatch z
      · rw [z] at e; cases e) (kp b ob hb e)
    exact ⟨⟨o, es, ep, k _ _ hdw e1, e2, e3, e4, fun x hx => keys h2 kp' x (List.mem_of_mem_take hx), e6⟩, kp'⟩
  · rintro i key v s' Q' E' hlt hrel ⟨tb, kp⟩ _ hQ
    have hrel : (prs.map fun x => (x.2.1, x.2.2))[i]? = some (key, v) := hrel
    rw [List.getElem?_map] at hrel
    obtain ⟨x, hx, ex⟩ := Option.map_eq_some_iff.mp hrel
    obtain ⟨rfl, rfl⟩ := Prod.mk.inj ex
    have hm := List.mem_of_getElem? hx
    have tk : prs.take (i + 1) = prs.take i ++ [x] := by rw [List.take_succ, hx]; rfl
    have hn : x.1 ∉ (prs.take i).map (·.1) := fun z => by
      have nd2 := nd
      rw [← List.take_append_drop (i + 1) prs, tk, List.map_append, List.map_append] at nd2
      have := (List.nodup_append.mp (List.nodup_append.mp nd2).1).2.2 x.1 z x.1 (by simp)
      exact this rfl
    refine od_set hu (keys _ kp x hm).1 (hk x hm).2 tb hn (by rw [List.length_take]; omega) fun h' tb' hs => ?_
    exact hQ h' _ ⟨by rw [tk]; exact tb', fun b o hb e => hs.extBut b o hb (kp b o hb e)⟩ hs
  · rintro h' tk ⟨tb, kp⟩ k
    rw [len, List.take_of_length_le (Nat.le_refl _)] at tb
    rw [g1]
    exact ⟨rfl, h h' tk tb fun b o e => kp b o (Nat.ne_of_lt (Heap.lt_size e)) (old b o e)⟩
end
end OdX

/-! Yoe: dicts with keys of other kinds: made, walked, told. -/
namespace Y
open PySem PySem.Spec PyProof.Rows L2 SX Z OdX
def nkO : OKey → NestedKey
  | .txt s => .text (S s)
  | .non => .none
  | .bl b => .num (if b = true then 1 else 0)
  | .one s => .tup [.text (S s)]
theorem S_inj {a b : List Nat} (h : S a = S b) : a = b := by
  have h2 := congrArg sOf h
  simpa [sOf, S] using h2
theorem nkO_inj {a b : OKey} (h : nkO a = nkO b) : a = b := by
  cases a with
  | txt x =>
    cases b with
    | txt y => injection h with h; rw [S_inj h]
    | non => cases h
    | bl y => cases h
    | one y => cases h
  | non =>
    cases b with
    | txt y => cases h
    | non => rfl
    | bl y => cases h
    | one y => cases h
  | bl x =>
    cases b with
    | txt y => cases h
    | non => cases h
    | bl y =>
      injection h with h
      cases x <;> cases y <;> first | rfl | (simp at h)
    | one y => cases h
  | one x =>
    cases b with
    | txt y => cases h
    | non => cases h
    | bl y => cases h
    | one y =>
      injection h with h
      injection h with h _
      injection h with h
      rw [S_inj h]
theorem nkO_depth (a : OKey) : (nkO a).depth ≤ 8 := by
  cases a <;> simp [nkO, NestedKey.depth, NestedKey.depthAll]
section
variable {X : Cx} {pins : List (Addr × Obj)} {σ : L2.St} {H : Hp} {s : Shared}
theorem okIs (I : Inv X pins σ H s) {v : V} {k : OKey} {u : Value} (h : OKv X.K H v k) (r : RelV v u) : NestedIs s.heap (nkO k) u := by
  cases k with
  | txt x =>
    obtain rfl := (show v = .str (S x) from h)
    obtain ⟨t, rfl⟩ := (show ∃ t, u = Value.str (S x) t from r)
    exact .text _ t
  | non =>
    obtain rfl := (show v = .non from h)
    obtain rfl := (show u = Value.none from r)
    exact .none
  | bl b =>
    obtain rfl := (show v = .bl b from h)
    obtain rfl := (show u = Value.bool b from r)
    exact .bool rfl
  | one x =>
    obtain ⟨b, rfl, q⟩ := h
    obtain rfl := (show u = Value.ref b from r)
    obtain ⟨its, rv, ⟨o, ho, hc, n, hd⟩, _⟩ := I.tuple q
    obtain ⟨z, rfl, rz⟩ := L2.vals1 rv
    obtain ⟨t, rfl⟩ := (show ∃ t, z = Value.str (S x) t from rz)
    exact .tup ho hc hd (.cons (.text _ t) .nil)
theorem pairsO (I : Inv X pins σ H s) : ∀ {ps : List Addr} {rows : List (V × V)} {kvs : List (OKey × Int)}, Paired (fun p (r : V × V) => SqT X.K H p [r.1, r.2]) ps rows → Paired (OKr X.K H) rows kvs →
    ∃ prs : List (NestedKey × Value × Value), prs.length = ps.length ∧ rows.length = ps.length ∧ prs.map (·.1) = kvs.map (fun p => nkO p.1) ∧ (∀ x ∈ prs, NestedIs s.heap x.1 x.2.1 ∧ x.1.depth ≤ 8) ∧ Paired (fun (r : V × V) (x : NestedKey × Value × Value) => RelV r.1 x.2.1 ∧ RelV r.2 x.2.2) rows prs ∧
      ∀ (j : Nat) x, prs[j]? = some x → ∃ b, ps[j]? = some b ∧ s.heap.IsTuple b #[x.2.1, x.2.2]
  | _, _, _, .nil, h => by
    cases h
    exact ⟨[], rfl, rfl, rfl, (fun _ h => nomatch h), .nil, fun j x e => by simp at e⟩
  | _, _, _, .cons (a := p) (b := r) h t, h2 => by
    cases h2 with
    | @cons _ kv _ _ k kt =>
      obtain ⟨prs, l1, l2, e1, m, pr, at'⟩ := pairsO I t kt
      obtain ⟨its, rv, ht, _⟩ := I.tuple h
      obtain ⟨u, y, ei, ru, ry⟩ := vals2 rv
      subst ei
      refine ⟨(nkO kv.1, u, y) :: prs, by rw [List.length_cons, List.length_cons, l1], by rw [List.length_cons, List.length_cons, l2], by rw [List.map_cons, List.map_cons, e1], fun x hx => ?_, .cons ⟨ru, ry⟩ pr, fun j x e => ?_⟩
      · rcases List.mem_cons.mp hx with e | hx
        · subst e
          exact ⟨okIs I k.1 ru, nkO_depth _⟩
        · exact m x hx
      · cases j with
        | zero =>
          have e' : (nkO kv.1, u, y) = x := Option.some.inj e
          subst e'
          exact ⟨p, rfl, ht⟩
        | succ j =>
          obtain ⟨b, q1, q2⟩ := at' j x (by simpa using e)
          exact ⟨b, by simpa using q1, q2⟩
theorem ndO {prs : List (NestedKey × Value × Value)} {kvs : List (OKey × Int)} (e : prs.map (·.1) = kvs.map (fun p => nkO p.1)) (nd : (kvs.map (·.1)).Nodup) : (prs.map (·.1)).Nodup := by
  have e2 : kvs.map (fun p => nkO p.1) = (kvs.map (·.1)).map nkO := by rw [List.map_map]; rfl
  rw [e, e2]
  exact List.pairwise_map.mpr (nd.imp fun {a b} n z => n (nkO_inj z))
theorem paired_ent {w : World} : ∀ {rows : List (V × V)} {prs : List (NestedKey × Value × Value)}, Paired (fun (r : V × V) (x : NestedKey × Value × Value) => RelV r.1 x.2.1 ∧ RelV r.2 x.2.2) rows prs → Paired (fun (r : V × V) (e : DictEntry) => RelV r.1 e.key ∧ RelV r.2 e.val) rows (prs.map (entO w))
  | _, _, .nil => .nil
  | _, _, .cons h t => .cons h (paired_ent t)
/-- dict(xs) of a list of pairs with keys of other kinds -/
theorem call_dictO (hcalm : X.calm = true) (hu : X.A.units + 64 < cLine) : CallR X (.type "dict") (fun xs H Q => ∃ (a : Addr) (ps : List Addr) (rows : List (V × V)) (kvs : List (OKey × Int)), xs = [.ref a] ∧ SqL X.K H a (ps.map V.ref) ∧ Paired (fun p (r : V × V) => SqT X.K H p [r.1, r.2]) ps rows ∧ Paired (OKr X.K H) rows kvs ∧ (kvs.map (·.1)).Nodup ∧
    ∀ p ob, H p = none → OdOb p ob rows → Q (.ref p) (upd H p (odE p ob))) := by
  intro pins s σ H xs us Q I r q
  obtain ⟨a, ps, rows, kvs, ex, hq, hp, hk, nd, q⟩ := q
  subst ex
  obtain ⟨u, eu, rx⟩ := vals1 r
  subst eu
  cases rx
  obtain ⟨its, rv, pl, hz⟩ := I.list hq
  have ei := refs_at rv
  subst ei
  rw [List.length_map] at hz
  obtain ⟨prs, l1, l2, e1, m, pr, at'⟩ := pairsO I hp hk
  obtain ⟨o, n, ho, hc, hd, hdat⟩ := pl
  have hun : X.A.in1.in1.units + 8 < cLine := by
    have h1 : X.A.in1.units ≤ X.A.units + 1 := by simp [Around.in1]
    have h2 : X.A.in1.in1.units ≤ X.A.in1.units + 1 := by simp [Around.in1]
    omega
  refine od_dict (prs := prs) (Ts := fun j => ps.getD j 0) (I.ok.hd hcalm) hun ⟨o, n, ho, hc, hd, hdat⟩ ⟨by simp [l1], fun j k v e => ?_⟩ m (ndO e1 nd) (by rw [l1]; exact hz) fun h' tk hd' k => ?_
  · rw [List.getElem?_map] at e
    obtain ⟨x, hx, ex⟩ := Option.map_eq_some_iff.mp e
    obtain ⟨rfl, rfl⟩ := Prod.mk.inj ex
    obtain ⟨b, hb, ht⟩ := at' j x hx
    have eb : ps.getD j 0 = b := by rw [List.getD_eq_getElem?_getD, hb]; rfl
    show _ = some (Value.ref (ps.getD j 0)) ∧ PairAt s.heap (ps.getD j 0) _ _
    rw [eb]
    exact ⟨by simp [hb], .inl ht⟩
  · have hm : (s.heap.objs.size == sysModules) = false := beq_eq_false_iff_ne.mpr (Nat.ne_of_gt I.big)
    obtain ⟨ob, es, ep, g1, g2, g3, g4, _, _⟩ := hd'
    refine ⟨.ref s.heap.objs.size, upd H s.heap.objs.size (odE s.heap.objs.size ob), I.laid (t' := tk) k (Nat.le_refl _) (show ObjOk X.prog X.w _ _ _ (odE s.heap.objs.size ob) from ⟨g1, ⟨ob, g1⟩, fun h1 h2 e1 e2 => e2 _ e1⟩), rfl, q _ ob (I.hok.fresh (Nat.le_refl _)) ⟨by rw [l2]; exact hz, hm, g2, es, ep, g3, by rw [g4]; exact paired_ent pr⟩⟩
end
/-! ### its keys -/
def Ito (d : Addr) (o : Obj) (rows : List (V × V)) : It :=
  ⟨fun i H => H d = some (odE d o) ∧ i < rows.length, fun i H x H' => H' = H ∧ ∃ r : V × V, rows[i]? = some r ∧ x = r.1, fun i H => H d = some (odE d o) ∧ rows.length ≤ i⟩
theorem walk_keysO {d : Addr} {o : Obj} {rows : List (V × V)} : Walk (Ito d o rows) rows.length (fun H => H d = some (odE d o)) (fun i H x H' => H' = H ∧ ∃ r : V × V, rows[i]? = some r ∧ x = r.1) :=
  ⟨fun _ _ hi q => ⟨q, hi⟩, fun _ q => ⟨q, Nat.le_refl _⟩, fun _ _ _ _ _ _ y => y⟩
section
variable {P : Program} {w : World} {K : PySem.W.Frag} {tg : Expr} {d : Addr} {o : Obj} {es : Array DictEntry} {ep : Nat} {rows : List (V × V)}
theorem turn_keysO (it : Addr) (hod : o.data = .dict es ep) (pe : Paired (fun (r : V × V) (e : DictEntry) => RelV r.1 e.key ∧ RelV r.2 e.val) rows es.toList) : Turn P w K tg (Ito d o rows) [it] it (fun i h => h.IsKeyIter it d i rows.length ep) where
  mem := by simp
  obj := fun i h st b hb => by
    have e : b = it := by simpa using hb
    subst e
    obtain ⟨oi, e, c, dd⟩ := st
    exact ⟨oi, e, fun v z => by rw [dd] at z; cases z⟩
  keep := fun i h h' st k => st.at fun oi e => k it (by simp) oi e
  item := by
    intro X hP hw hK hc i pins s σ H E I hf st hg
    subst hP hw hK
    obtain ⟨hd, hi⟩ := hg
    obtain ⟨f0, f1, f2, f3, f4, f5⟩ := hf it (by simp)
    obtain ⟨hgd, _, _⟩ := (show ObjOk X.prog X.w H s.heap d (odE d o) from I.hok d _ hd)
    obtain ⟨r, hr⟩ : ∃ r, rows[i]? = some r := ⟨rows[i], List.getElem?_eq_getElem hi⟩
    obtain ⟨en, hen, rk, _⟩ := paired_get pe hr
    rw [Array.getElem?_toList] at hen
    have hsz : es.size = rows.length := by rw [← Array.length_toList]; exact (Paired.length pe).symm
    refine next_key_item st hgd hod hsz hen fun h' st' sb => ?_
    have I1 : Inv X pins σ H { s with heap := h' } := I.turned (t' := s.toks) (fun b ob hb e => (sb.2 b hb).trans e) f0 f1 f3 f4 f5
    obtain ⟨oi, e, c, dd⟩ := id st'
    exact ⟨en.key, rfl, go_of (s := { s with heap := h' }) e c dd (by decide) ⟨r.1, H, I1, rk, ⟨rfl, r, hr, rfl⟩, st', fun b hb => (hf b hb).1⟩⟩
  done := by
    intro X hP hw hK hc i pins s σ H E I hf st hg
    subst hP hw hK
    obtain ⟨hd, hi⟩ := hg
    obtain ⟨f0, f1, f2, f3, f4, f5⟩ := hf it (by simp)
    obtain ⟨hgd, _, _⟩ := (show ObjOk X.prog X.w H s.heap d (odE d o) from I.hok d _ hd)
    have hsz : es.size = rows.length := by rw [← Array.length_toList]; exact (Paired.length pe).symm
    exact next_key_end (I.ok.hd hc) st hgd hod hsz hi fun h' eb => ⟨rfl, I.turned (t' := s.toks) (fun b ob hb e => eb b ob hb e) f0 f1 f3 f4 f5⟩
  self := fun A i s Q E st h => by
    refine wpAny_pyIter_slot st.typeIs F.slot_dict_keyiterator_iter (wpAny_call_entry F.slot_dict_keyiterator_iter st.typeIs F.entry_dict_keyiterator_iter ?_ (F.args_dict_keyiterator_iter_1 _))
    show wpAny _ _ (ret (.ref it)) _ _ s
    exact wpAny_pure ⟨_, rfl, "dict_keyiterator", _, st.typeIs, F.slot_dict_keyiterator_next.lookup, h⟩
end
def iKeysO (td : L2.TE) : L2.TI := fun σ H R => td σ H fun x H1 => ∃ (d : Addr) (o : Obj) (rows : List (V × V)), x = .ref d ∧ H1 d = some (odE d o) ∧ OdOb d o rows ∧ R (Ito d o rows) H1
theorem pi_keysO {X : Cx} {tg e : Expr} {td : L2.TE} (he : PE X e td) : PI X tg e (iKeysO td) := by
  refine ⟨fun pins s σ H R I h => ?_⟩
  refine thn (he.run pins s σ H _ I h) fun u s1 ⟨x, H1, I1, rx, d, o, rows, ex, hd, oo, q⟩ => ?_
  subst ex
  obtain rfl : u = Value.ref d := rx
  obtain ⟨hgd, _, _⟩ := (show ObjOk X.prog X.w H1 s1.heap d (odE d o) from I1.hok d _ hd)
  obtain ⟨_, hs, hx, es, ep, hdt, pe⟩ := oo
  have hsz : es.size = rows.length := by rw [← Array.length_toList]; exact (Paired.length pe).symm
  refine iter_keys hs hgd hx hdt (pi_one (tk := s1.toks) I1 _ (turn_keysO _ hdt pe) ⟨_, Heap.get?_push_size _ rfl, rfl, ?_⟩ q)
  rw [hsz] <;> rfl
section
variable {c : Ct} {ρ : EnvT} {σ : Sg} {QA : List DT → Sg → Prop} {E : TX} {tg e a : Expr} {pos p : Pos}
theorem okRep {F : PySem.W.Frag} {H : Hp} {v : V} {k : OKey} (h : OKv F H v k) : Rep F H v (okT k) := by
  cases k with
  | txt x => obtain rfl := (show v = .str (S x) from h); exact .str _
  | non => obtain rfl := (show v = .non from h); exact .non
  | bl b => obtain rfl := (show v = .bl b from h); exact .bl _
  | one x => obtain ⟨b, rfl, q⟩ := h; exact .tup q (.cons (.str _) .nil)
theorem repOk {F : PySem.W.Frag} {H : Hp} {v : V} : ∀ {k : OKey}, Rep F H v (okT k) → OKv F H v k
  | .txt x, h => by cases h; rfl
  | .non, h => by cases h; rfl
  | .bl b, h => by cases h; rfl
  | .one x, h => by
    cases h with
    | tup hs ra =>
      obtain ⟨u, rfl, ru⟩ := repA_one ra
      cases ru
      exact ⟨_, rfl, hs⟩
/-- a dict with keys of other kinds, key by key -/
theorem ti_keysO [Calm c] (h : TE c e ρ σ (fun d σ1 => ∃ kvs, d = .dco kvs ∧ QA (kvs.map fun x => okT x.1) σ1) E) : TI c tg e ρ σ QA E := ⟨fun X hX st H K w r xc R q => by
  have hX' := hX
  cases hX' with
  | mk _ k' Wx fl hpp hrH hcf hh hp' ht hf hN hU hst =>
  obtain rfl : hpp = none := ‹Calm _›.h
  refine cP_of (pi_keysO cE_pe) ?_
  refine h.run X hX st H K w r xc _ fun v d σ1 H1 K1 s1 w1 r1 ⟨ds, e1, h1⟩ => ?_
  subst e1
  cases r1 with
  | dco hd oo ra =>
    rename_i a ob rows
    have hl : rows.length = (ds.map fun x => okT x.1).length := by rw [List.length_map]; exact Paired.length ra
    refine ⟨a, ob, rows, rfl, w1.le _ _ hd, oo, q _ σ1 _ _ _ H1 K1 s1 w1 h1 (hl ▸ walk_keysO) (fun H' σ' K' s2 w2 => w2.le _ _ (s2 _ _ hd)) fun i v H' σ' Ka Kb hi s2 w2 y => ?_⟩
    obtain ⟨rfl, r, hr, rfl⟩ := y
    obtain ⟨p, hp, ok⟩ := paired_get ra hr
    exact ⟨H', okT p.1, by rw [List.getElem?_map, hp]; rfl, Gw.refl, w2, okRep (ok.1.same s2), fun _ _ z => z⟩⟩
theorem tvi_keysO [Calm c] {kvs : List (OKey × Int)} (h : TV c e ρ σ (.dco kvs)) : TVI c tg e ρ σ (kvs.map fun x => okT x.1) := ⟨fun q => ti_keysO (h.to ⟨kvs, rfl, q⟩)⟩
theorem pairs_repO {F : PySem.W.Frag} {H : Hp} : ∀ (l : List (OKey × Int)) (vs : List V), RepA F H vs (l.map fun p => .tup [okT p.1, .int p.2]) → ∃ (ps : List Addr) (rows : List (V × V)), vs = ps.map V.ref ∧ Paired (fun p (r : V × V) => SqT F H p [r.1, r.2]) ps rows ∧ Paired (OKr F H) rows l
  | [], _, r => by
    cases r
    exact ⟨[], [], rfl, .nil, .nil⟩
  | (k, d) :: l, _, r => by
    cases r with
    | cons h t =>
      obtain ⟨ps, rows, rfl, hp, rk⟩ := pairs_repO l _ t
      cases h with
      | @tup a ws _ hs ra =>
        obtain ⟨x, y, rfl, rx, ry⟩ := repA_two ra
        cases ry
        exact ⟨a :: ps, (x, .int d) :: rows, rfl, .cons hs hp, .cons ⟨repOk rx, rfl⟩ rk⟩
theorem te_dictO [Calm c] {Q : DT → Sg → Prop} (hg : GlS c "dict") (hm : c.mg "dict" = none) (h : TE c a ρ σ (fun x σ1 => ∃ l : List (OKey × Int), LsT σ1 x (l.map fun p => .tup [okT p.1, .int p.2]) ∧ (l.map (·.1)).Nodup ∧ Q (.dco l) σ1) E)
    (he : ∀ env, starEach [a] env = (false, eval a env) :: starEach [] env := by intro _; rfl) (hpl : ∀ pos env, (backTo pos (starEach [] env)).any (·.1) = false := by intro _ _; rfl) : TE c (.Call (.Name "dict" p) [a] [] pos) ρ σ Q E := ⟨fun X hX st H K w r xc Q' fo => by
  have hc := con_calm hX
  have hu := con_room hX
  have hX' := hX
  cases hX'
  refine cE_of (pe_callTy (call_dictO hc hu) hg hm (by exact bt_dict) (cA_pa (e := [a])) (by decide) (by decide) (he _) (hpl _ _)) ?_
  refine (ta_cons (QA := fun ds σ1 => ∃ x l, ds = [x] ∧ LsT σ1 x (l.map fun p : OKey × Int => .tup [okT p.1, .int p.2]) ∧ (l.map (·.1)).Nodup ∧ Q (.dco l) σ1) (h.imp fun x σ1 ⟨l, h1, h2, h3⟩ => ta_nil ⟨x, l, rfl, h1, h2, h3⟩) he).run X hX st H K w r xc _ fun vs ds σ1 H1 K1 s1 w1 r1 ⟨x, l, ed, hx, nd, q⟩ => ?_
  subst ed
  obtain ⟨u, rfl, ru⟩ := repA_one r1
  obtain ⟨b, ws, rfl, q1, ra⟩ := hx.now w1 ru
  obtain ⟨ps, rows, rfl, hp, rk⟩ := pairs_repO l ws ra
  refine ⟨b, ps, rows, l, rfl, q1, Paired.mapP hp fun _ _ z => same_sqt w1.le z, OKr.same w1.le rk, nd, fun z ob hz oo => ?_⟩
  obtain ⟨s2, w2⟩ := w1.new (o := odE z ob) hz
  exact fo _ _ _ _ _ (s1.trans s2) w2 (.dco upd_same oo (OKr.same s2.b rk)) q⟩
theorem tv_dictO [Calm c] {x : DT} {l : List (OKey × Int)} (hg : GlS c "dict") (hm : c.mg "dict" = none) (ha : TV c a ρ σ x) (hx : LsT σ x (l.map fun p => .tup [okT p.1, .int p.2])) (nd : (l.map (·.1)).Nodup) (he : ∀ env, starEach [a] env = (false, eval a env) :: starEach [] env := by intro _; rfl) : TV c (.Call (.Name "dict" p) [a] [] pos) ρ σ (.dco l) :=
  ⟨fun {Q E} q => te_dictO hg hm (ha.to ⟨l, hx, nd, q⟩) he⟩
/-- isinstance of such a dict, one built-in type -/
theorem pf_isiO {u : String} {r : Bool} {l : List (OKey × Int)} (e : kitB "dict" u = some r) : POF c (.builtin "isinstance") [.dco l, .ty u] σ (.bl r) := ⟨fun X hX H K w vs ra Q k => by
  have hX' := hX
  cases hX'
  obtain ⟨v, u2, rfl, rv, ru⟩ := repA_two ra
  cases ru
  cases rv with
  | @dco a ob rows _ hs oo _ =>
    refine cF_of (r := fun xs H Q => xs = [.ref a, .ty u] ∧ H a = some (odE a ob) ∧ ob.ExactDict ∧ Q (.bl r) H) ?_ ⟨rfl, w.le _ _ hs, oo.ex, k _ H K Gw.refl w (.bl _)⟩
    intro pins s σ' H' xs us Q' I rr hh
    obtain ⟨rfl, h1, h2, q⟩ := hh
    obtain ⟨u1, u2, rfl, r1, r2⟩ := vals2 rr
    obtain rfl := (show u1 = Value.ref a from r1)
    obtain rfl := (show u2 = Value.type u from r2)
    obtain ⟨hgd, _, _⟩ := (show ObjOk _ _ H' s.heap a (odE a ob) from I.hok a _ h1)
    exact PySem.W.kia_one PySem.W.kitx_dict I.kIn ⟨ob, hgd, h2.1⟩ (kit_ty e) (fun z => nomatch z) fun tk => ⟨.bl r, H', I.tok tk, rfl, q⟩⟩
end
end Y

open PySem L2 SX Z Y
/-! ### short words over trees -/
local macro_rules | `(tactic| walk_at "z") => `(tactic| first | assumption | omega | decide | decide +kernel)
local macro_rules | `(tactic| walk_at "as") => `(tactic| with_reducible assumption)
local macro_rules | `(tactic| walk_at "bt") => `(tactic| with_reducible first | exact bt_len | exact bt_isinstance | exact bt_str | exact bt_int | exact bt_bool | exact bt_list | exact bt_min | exact bt_max | exact bt_abs | exact bt_all | exact bt_sum | exact bt_sorted | exact bt_repr | exact bt_tuple | exact bt_dict | exact bt_set)
local macro_rules | `(tactic| walk_at "bd") => `(tactic| first | assumption | exact cut_le (by walk_at "bd") | exact app_le (by walk_at "bd") (by walk_at "bd") | exact Nat.le_refl _)
local macro_rules | `(tactic| walk_at "len") => `(tactic| first | assumption | exact Nat.le_of_ble_eq_true rfl | exact Nat.le_trans (Nat.add_le_add (by walk_at "bd") (by walk_at "bd")) (by omega) | exact Nat.le_trans (by walk_at "bd") (by omega) | omega | (simp; done) | (simp; omega))
local macro_rules | `(tactic| walk_at "mul") => `(tactic| first | assumption | (unfold CMulW; decide +kernel))
local macro_rules | `(tactic| walk_at "div") => `(tactic| first | assumption | exact ⟨by decide, by decide⟩ | exact ⟨by decide +kernel, by decide +kernel⟩)
local macro_rules | `(tactic| walk_at "pow") => `(tactic| first | assumption | exact ⟨by decide, by decide, by decide⟩)
local macro_rules | `(tactic| walk_at "cell") => `(tactic| first | assumption | exact su_same)
local macro_rules | `(tactic| walk_at "lx") => `(tactic| first | with_reducible exact lsX_l | exact lsX_c (by walk_at "cell"))
local macro_rules | `(tactic| walk_at "lt") => `(tactic| first | with_reducible exact lsT_l | with_reducible exact lsT_s | exact lsT_c (by walk_at "cell") | assumption)
local macro_rules | `(tactic| walk_at "at") => `(tactic| first | assumption | rfl | exact Z.at_nat (j := 0) rfl rfl)
local macro_rules | `(tactic| walk_at "o2") => `(tactic| first
  | with_reducible exact po_addI | with_reducible exact po_subI | with_reducible exact po_ltI | with_reducible exact po_leI | with_reducible exact po_gtI | with_reducible exact po_geI | with_reducible exact po_eqI | with_reducible exact po_neI
  | with_reducible exact po_eqS | with_reducible exact po_neS | with_reducible exact po_isN | with_reducible exact po_notN | with_reducible exact po_isB | with_reducible exact po_notB | with_reducible exact po_iaddI | with_reducible exact po_isubI
  | ((with_reducible show PO2 _ (compareOp .In) (.str _) (.str _) _ _); exact po_inS)
  | ((with_reducible show PO2 _ (binaryOp .Mult) (.int _) _ _ _); exact po_mulI (by walk_at "mul")) | ((with_reducible show PO2 _ (binaryOp .Mod) (.int _) _ _ _); exact po_modI (by walk_at "z")) | ((with_reducible show PO2 _ (binaryOp .FloorDiv) _ _ _ _); exact po_divI (by walk_at "div")) | ((with_reducible show PO2 _ (binaryOp .Pow) _ _ _ _); exact po_powI (by walk_at "pow"))
  | ((with_reducible show PO2 _ (binaryOp .Add) (.str _) _ _ _); exact po_addS (by walk_at "len")) | ((with_reducible show PO2 _ (binaryOp .Mult) (.str _) _ _ _); exact po_mulS (by walk_at "z") (by walk_at "z") (by walk_at "len"))
  | ((with_reducible show PO2 _ (binaryOp .Add) _ _ _ _); exact po_cat (by walk_at "lx") (by walk_at "lx") (by walk_at "len")) | ((with_reducible show PO2 _ (binaryOp .Mult) _ _ _ _); exact po_rep (by walk_at "lx") (by walk_at "z") (by walk_at "z") (by walk_at "len"))
  | ((with_reducible show PO2 _ (compareOp .Lt) (.str _) _ _ _); exact po_ltS) | ((with_reducible show PO2 _ (compareOp .Gt) (.str _) _ _ _); exact po_gtS))
local macro_rules | `(tactic| walk_at "of") => `(tactic| first
  | ((with_reducible show POF _ (.builtin "len") [.str _] _ _); exact pf_lenS (by walk_at "len")) | ((with_reducible show POF _ (.builtin "len") [.tup _] _ _); exact pf_lenT) | ((with_reducible show POF _ (.builtin "len") _ _ _); exact pf_lenL (by walk_at "lt")) | with_reducible exact pf_min2 | with_reducible exact pf_max2
  | ((with_reducible show POF _ (.builtin "all") _ _ _); exact pf_all (by walk_at "lt")) | ((with_reducible show POF _ (.builtin "sum") _ _ _); exact pf_sum (by walk_at "lt")) | ((with_reducible show POF _ (.builtin "isinstance") _ _ _); exact pf_isi (by rfl) (by decide +kernel)))
local macro_rules | `(tactic| walk_at "oty") => `(tactic| first | with_reducible exact pf_intB | ((with_reducible show POF _ (.type "list") [.tup _] _ _); exact pf_listT) | ((with_reducible show POF _ (.type "list") _ _ _); exact pf_listL (by walk_at "lt")))
local macro_rules | `(tactic| walk_at "va") => `(tactic| first | with_reducible exact tva_nil | exact tva_cons (by walk_at "v") (by walk_at "va"))
local macro_rules | `(tactic| walk_at "vo") => `(tactic| first | with_reducible exact to_none | exact to_some (by walk_at "v"))
local macro_rules | `(tactic| walk_at "oi") => `(tactic| first | ((with_reducible show POI _ (.str _) _ _ _); exact pi_str (by walk_at "len") (by walk_at "at")) | ((with_reducible show POI _ (.tup _) _ _ _); exact pi_tup (by walk_at "at")) | exact pi_lst (by walk_at "lt") (by walk_at "at"))
local macro_rules | `(tactic| walk_at "ol") => `(tactic| first | ((with_reducible show POL _ (.str _) _ _ _ _); exact pl_str (by walk_at "len")) | ((with_reducible show POL _ (.tup _) _ _ _ _); exact pl_tup (by walk_at "z")) | exact pl_lst (by walk_at "lt"))
/-- a call of a built-in -/
local macro_rules | `(tactic| walk_at "vc") => `(tactic| first
  | exact tv_callB (by rfl) (by walk_at "as") (by walk_at "bt") (by walk_at "va") (by walk_at "of")
  | exact tv_callTy (by rfl) (by walk_at "as") (by walk_at "bt") (by walk_at "va") (by walk_at "oty"))
local macro_rules | `(tactic| walk_at "v") => `(tactic| first
  | ((with_reducible show TV _ (.Name _ _) _ _ _); first
    | exact tv_nm (by rfl) (by rfl)
    | exact tv_gl (by rfl) (by walk_at "as")
    | exact tv_ty (by rfl) (by walk_at "as") (by walk_at "bt"))
  | with_reducible exact tv_int
  | with_reducible exact tv_str
  | with_reducible exact tv_bl
  | with_reducible exact tv_non
  | ((with_reducible show TV _ (.BinOp _ _ _ _) _ _ _); exact tv_bin (by walk_at "v") (by walk_at "v") (by walk_at "o2"))
  | ((with_reducible show TV _ (.Compare _ [_] [_] _) _ _ _); exact tv_cmp (by walk_at "v") (by walk_at "v") (by walk_at "o2") (by rfl))
  | ((with_reducible show TV _ (.Subscript _ (.Slice _ _ _ _) _) _ _ _); exact tv_slice (by walk_at "v") (by walk_at "vo") (by walk_at "vo") (by walk_at "ol"))
  | ((with_reducible show TV _ (.Subscript _ _ _) _ _ _); exact tv_sub (by walk_at "v") (by walk_at "v") (by walk_at "oi"))
  | ((with_reducible show TV _ (.Call _ _ _ _) _ _ _); walk_at "vc")
  | ((with_reducible show TV _ (.BoolOp _ [_] _) _ _ _); exact tv_one (by walk_at "v"))
  | ((with_reducible show TV _ (.BoolOp .And _ _) _ _ _); exact tv_and (by walk_at "v") (fun _ => by walk_at "v"))
  | ((with_reducible show TV _ (.BoolOp .Or _ _) _ _ _); exact tv_or (by walk_at "v") (fun _ => by walk_at "v"))
  | ((with_reducible show TV _ (.UnaryOp .Not _ _) _ _ _); exact tv_not (by walk_at "v"))
  | ((with_reducible show TV _ (.List _ _) _ _ _); exact tv_lst (by walk_at "va"))
  | ((with_reducible show TV _ (.Tuple _ _ _) _ _ _); exact tv_tup (by walk_at "va"))
  | ((with_reducible show TV _ (.IfExp _ _ _ _) _ _ _); exact tv_if (by walk_at "t") (fun _ => by walk_at "v") (fun _ => by walk_at "v")))
/-- tests -/
local macro_rules | `(tactic| walk_at "t") => `(tactic| first
  | ((with_reducible show TB _ (.Compare _ [_] [_] _) _ _ _); exact tb_cmp (by walk_at "v") (by walk_at "v") (by walk_at "o2") (by rfl))
  | ((with_reducible show TB _ (.UnaryOp .Not _ _) _ _ _); exact tb_not (by walk_at "t"))
  | ((with_reducible show TB _ (.BoolOp _ _ _) _ _ _); exact tb_W (by walk_at "tw"))
  | exact tb_val (by walk_at "v"))
local macro_rules | `(tactic| walk_at "tw") => `(tactic| first
  | ((with_reducible show TBW _ (.BoolOp .And [_] _) _ _ _); exact tbw_and1 (by walk_at "t"))
  | ((with_reducible show TBW _ (.BoolOp .Or [_] _) _ _ _); exact tbw_or1 (by walk_at "t"))
  | ((with_reducible show TBW _ (.BoolOp .And _ _) _ _ _); exact tbw_and (by walk_at "t") (fun _ => by walk_at "tw"))
  | ((with_reducible show TBW _ (.BoolOp .Or _ _) _ _ _); exact tbw_or (by walk_at "t") (fun _ => by walk_at "tw")))
/-- a name that is stored, a local target, a comprehension's block -/
local macro_rules | `(tactic| walk_at "sto") => `(tactic| exact ⟨by rfl, by first | exact .inl (by rfl) | exact .inr (by rfl), .inl rfl⟩)
local macro_rules | `(tactic| walk_at "tgt") => `(tactic| exact ⟨_, _, rfl, by rfl, by first | exact .inl (by rfl) | exact .inr (by rfl), by first | exact .inl rfl | exact .inr (by rfl)⟩)
local macro_rules | `(tactic| walk_at "tgs") => `(tactic| exact ⟨_, _, _, rfl, by first | exact ⟨by walk_at "tgt", by walk_at "tgt", trivial⟩ | exact ⟨by walk_at "tgt", by walk_at "tgt", by walk_at "tgt", trivial⟩ | exact ⟨by walk_at "tgt", by walk_at "tgt", by walk_at "tgt", by walk_at "tgt", trivial⟩⟩)
local macro_rules | `(tactic| walk_at "blk") => `(tactic| (dsimp only; decide +kernel))
local macro_rules | `(tactic| walk_at "k") => `(tactic| exact Nat.le_of_ble_eq_true rfl)

/-! ### the texts -/
namespace Y
open PySem PySem.Spec L2 SX Z
def top (i : Nat) : Stmt := PySem.Challenge.pw_windowcounts_k06_errors_of_tables.main.body.getD i (.Pass ⟨0, 0, 0, 0⟩)
abbrev s_is_integer : Stmt := top 20
theorem sc_is_integer : FnScope ["value", "low", "high"] ["value", "low", "high"] (defScope s_is_integer) := ⟨rfl, rfl, rfl, by decide +kernel, rfl, by decide +kernel, by decide +kernel⟩
abbrev s_is_letters : Stmt := top 21
theorem sc_is_letters : FnScope ["value", "low", "high", "sign"] ["value", "low", "high"] (defScope s_is_letters) := ⟨rfl, rfl, rfl, by decide +kernel, rfl, by decide +kernel, by decide +kernel⟩
abbrev s_is_row : Stmt := top 22
theorem sc_is_row : FnScope ["value"] ["value"] (defScope s_is_row) := ⟨rfl, rfl, rfl, by decide +kernel, rfl, by decide +kernel, by decide +kernel⟩
abbrev s_check_row : Stmt := top 23
theorem sc_check_row : FnScope ["value"] ["value"] (defScope s_check_row) := ⟨rfl, rfl, rfl, by decide +kernel, rfl, by decide +kernel, by decide +kernel⟩
abbrev s_check_width : Stmt := top 24
theorem sc_check_width : FnScope ["row", "value"] ["row", "value"] (defScope s_check_width) := ⟨rfl, rfl, rfl, by decide +kernel, rfl, by decide +kernel, by decide +kernel⟩
abbrev s_windows_in : Stmt := top 25
theorem sc_windows_in : FnScope ["row", "width", "place"] ["row", "width"] (defScope s_windows_in) := ⟨rfl, rfl, rfl, by decide +kernel, rfl, by decide +kernel, by decide +kernel⟩
abbrev s_counts_in : Stmt := top 27
theorem sc_counts_in : FnScope ["row", "width", "found", "window"] ["row", "width"] (defScope s_counts_in) := ⟨rfl, rfl, rfl, by decide +kernel, rfl, by decide +kernel, by decide +kernel⟩
abbrev s_most_windows : Stmt := top 28
theorem sc_most_windows : FnScope ["width"] ["width"] (defScope s_most_windows) := ⟨rfl, rfl, rfl, by decide +kernel, rfl, by decide +kernel, by decide +kernel⟩
abbrev s_is_counts : Stmt := top 29
theorem sc_is_counts : FnScope ["width", "value", "window"] ["width", "value"] (defScope s_is_counts) := ⟨rfl, rfl, rfl, by decide +kernel, rfl, by decide +kernel, by decide +kernel⟩
abbrev s_check_table : Stmt := top 30
abbrev s_law_reel : Stmt := top 33
theorem sc_law_reel : FnScope ["_law_script", "_law_stir", "_law_cell", "_law_great"] ["_law_script"] (defScope s_law_reel) := ⟨rfl, rfl, rfl, by decide +kernel, rfl, by decide +kernel, by decide +kernel⟩
abbrev s_law_draw : Stmt := top 34
theorem sc_law_draw : FnScope ["_law_reel_here", "_law_many", "_law_rest", "_law_extra", "_law_stir"] ["_law_reel_here", "_law_many"] (defScope s_law_draw) := ⟨rfl, rfl, rfl, by decide +kernel, rfl, by decide +kernel, by decide +kernel⟩
abbrev s_law_word : Stmt := top 35
theorem sc_law_word : FnScope ["_law_reel_here", "_law_low", "_law_high", "_law_size", "_law_way", "_law_pool", "_law_part", "_law_found", "_law_at", "_law_turn"] ["_law_reel_here", "_law_low", "_law_high"] (defScope s_law_word) := ⟨rfl, rfl, rfl, by decide +kernel, rfl, by decide +kernel, by decide +kernel⟩
abbrev s_law_no_rows : Stmt := top 36
theorem sc_law_no_rows : FnScope ["_law_reel_here", "_law_text", "_law_at", "_law_found", "_law_sign", "_law_one"] ["_law_reel_here", "_law_text"] (defScope s_law_no_rows) := ⟨rfl, rfl, rfl, by decide +kernel, rfl, by decide +kernel, by decide +kernel⟩
abbrev s_law_no_widths : Stmt := top 37
theorem sc_law_no_widths : FnScope ["_law_text", "_law_found"] ["_law_text"] (defScope s_law_no_widths) := ⟨rfl, rfl, rfl, by decide +kernel, rfl, by decide +kernel, by decide +kernel⟩
abbrev s_law_kind : Stmt := top 38
theorem sc_law_kind : FnScope ["_law_e", "_law_names", "_law_found", "_law_name", "_law_is_one"] ["_law_e"] (defScope s_law_kind) := ⟨rfl, rfl, rfl, by decide +kernel, rfl, by decide +kernel, by decide +kernel⟩
abbrev s_law_dict : Stmt := top 39
theorem sc_law_dict : FnScope ["_law_reel_here", "_law_wide", "_law_most", "_law_found", "_law_left", "_law_one", "_law_many"] ["_law_reel_here", "_law_wide", "_law_most"] (defScope s_law_dict) := ⟨rfl, rfl, rfl, by decide +kernel, rfl, by decide +kernel, by decide +kernel⟩
abbrev s_law_told : Stmt := top 40
theorem sc_law_told : FnScope ["_law_door", "_law_one", "_law_other", "_law_found", "_law_e"] ["_law_door", "_law_one", "_law_other"] (defScope s_law_told) := ⟨rfl, rfl, rfl, by decide +kernel, rfl, by decide +kernel, by decide +kernel⟩
abbrev s_law_no_counts : Stmt := top 41
theorem sc_law_no_counts : FnScope ["_law_reel_here", "_law_wide", "_law_counts", "_law_items", "_law_at", "_law_good", "_law_keys", "_law_odd", "_law_rest", "_law_found", "_law_key", "_law_many", "_law_pair"] ["_law_reel_here", "_law_wide", "_law_counts"] (defScope s_law_no_counts) := ⟨rfl, rfl, rfl, by decide +kernel, rfl, by decide +kernel, by decide +kernel⟩
abbrev s_law_no_windows : Stmt := top 42
theorem sc_law_no_windows : FnScope ["_law_wide", "_law_good", "_law_found", "_law_one"] ["_law_wide"] (defScope s_law_no_windows) := ⟨rfl, rfl, rfl, by decide +kernel, rfl, by decide +kernel, by decide +kernel⟩
abbrev s_law_right : Stmt := top 43
theorem sc_law_right : FnScope ["_law_reel_here", "_law_wide", "_law_counts", "_law_table", "_law_bad", "_law_lost", "_law_kept", "_law_value", "_law_full", "_law_more", "_law_told_here", "_law_some"] ["_law_reel_here", "_law_wide"] (defScope s_law_right) := ⟨rfl, rfl, rfl, by decide +kernel, rfl, by decide +kernel, by decide +kernel⟩
abbrev s_law : Stmt := top 44
theorem sc_law : FnScope ["_law_script", "_law_reel_here", "_law_k", "_law_text", "_law_value", "_law_wide"] ["_law_script"] (defScope s_law) := ⟨rfl, rfl, rfl, by decide +kernel, rfl, by decide +kernel, by decide +kernel⟩
def clsS : Stmt → List Stmt
  | .ClassDef _ _ _ b _ _ _ _ _ _ _ => b
  | _ => []
abbrev s_Table_init : Stmt := (clsS (top 31)).getD 1 (.Pass ⟨0, 0, 0, 0⟩)
theorem sc_Table_init : FnScope ["self", "width", "counts", "window"] ["self", "width", "counts"] (defScope s_Table_init) := ⟨rfl, rfl, rfl, by decide +kernel, rfl, by decide +kernel, by decide +kernel⟩
abbrev s_Table_of : Stmt := (clsS (top 31)).getD 2 (.Pass ⟨0, 0, 0, 0⟩)
theorem sc_Table_of : FnScope ["cls", "row", "width"] ["cls", "row", "width"] (defScope s_Table_of) := ⟨rfl, rfl, rfl, by decide +kernel, rfl, by decide +kernel, by decide +kernel⟩
abbrev s_Table_width : Stmt := (clsS (top 31)).getD 3 (.Pass ⟨0, 0, 0, 0⟩)
abbrev s_Table_counts : Stmt := (clsS (top 31)).getD 4 (.Pass ⟨0, 0, 0, 0⟩)
abbrev s_Table_total : Stmt := (clsS (top 31)).getD 5 (.Pass ⟨0, 0, 0, 0⟩)
abbrev s_Table_times_of : Stmt := (clsS (top 31)).getD 6 (.Pass ⟨0, 0, 0, 0⟩)
theorem sc_Table_times_of : FnScope ["self", "window"] ["self", "window"] (defScope s_Table_times_of) := ⟨rfl, rfl, rfl, by decide +kernel, rfl, by decide +kernel, by decide +kernel⟩
abbrev s_Table_check_other : Stmt := (clsS (top 31)).getD 7 (.Pass ⟨0, 0, 0, 0⟩)
abbrev s_Table_check_size : Stmt := (clsS (top 31)).getD 8 (.Pass ⟨0, 0, 0, 0⟩)
abbrev s_Table_add : Stmt := (clsS (top 31)).getD 9 (.Pass ⟨0, 0, 0, 0⟩)
abbrev s_Table_sub : Stmt := (clsS (top 31)).getD 10 (.Pass ⟨0, 0, 0, 0⟩)
abbrev s_Table_mul : Stmt := (clsS (top 31)).getD 11 (.Pass ⟨0, 0, 0, 0⟩)
abbrev s_Table_invert : Stmt := (clsS (top 31)).getD 12 (.Pass ⟨0, 0, 0, 0⟩)
abbrev s_Table_contains : Stmt := (clsS (top 31)).getD 13 (.Pass ⟨0, 0, 0, 0⟩)
abbrev s_Table_len : Stmt := (clsS (top 31)).getD 14 (.Pass ⟨0, 0, 0, 0⟩)
abbrev s_Table_eq : Stmt := (clsS (top 31)).getD 15 (.Pass ⟨0, 0, 0, 0⟩)
abbrev s_Table_call : Stmt := (clsS (top 31)).getD 16 (.Pass ⟨0, 0, 0, 0⟩)
end Y

/-! ### rows -/
namespace Y
open PySem PySem.Spec L2 SX Z
theorem gl_int {F : PySem.W.Frag} {mg : Str → Option Value} {x : Str} {i : Int} {t : Tok} (h : mg x = some (.int i t)) : GlT F mg x (.int i) := ⟨_, .int i, h, ⟨t, rfl⟩, fun _ => .int i⟩
theorem gl_str {F : PySem.W.Frag} {mg : Str → Option Value} {x : Str} {s : Str} {t : Tok} (h : mg x = some (.str s t)) : GlT F mg x (.str (sOf s)) := ⟨_, .str s, h, ⟨t, rfl⟩, fun H => by have := Rep.str (F := F) (H := H) (sOf s); rwa [S_sOf] at this⟩
theorem sOf_LET : sOf "abcdefghijklmnopqrstuvwxyz" = LET := by
  unfold sOf
  rw [LET_str]
/-- is a value a text of lo to hi letters -/
def isLettersV (x : DT) (lo hi : Int) : Bool := match x with
  | .str s => decide (lo ≤ s.length) && decide ((s.length : Int) ≤ hi) && s.all isLet
  | _ => false
def isRowV (x : DT) : Bool := isLettersV x 1 200
def rowOk (r : List Nat) : Prop := 1 ≤ r.length ∧ r.length ≤ 200 ∧ r.all isLet = true
theorem isRowV_ok {r : List Nat} (h : rowOk r) : isRowV (.str r) = true := by
  obtain ⟨h1, h2, h3⟩ := h
  unfold isRowV isLettersV
  simp only [h3, Bool.and_true, Bool.and_eq_true, decide_eq_true_eq]
  omega
def spLetters : TSpec := fun ds σ Q E => ∃ x lo hi, ds = [x, .int lo, .int hi] ∧ (tyT σ x).isSome = true ∧ (∀ s, x = .str s → s.length ≤ 1000000) ∧ Q (.bl (isLettersV x lo hi)) σ
def spRow : TSpec := fun ds σ Q E => ∃ x, ds = [x] ∧ (tyT σ x).isSome = true ∧ (∀ s, x = .str s → s.length ≤ 1000000) ∧ Q (.bl (isRowV x)) σ
section
variable {P : Program} {w : World} {F : PySem.W.Frag} {mg : Str → Option Value} {base : Heap}
theorem ok_is_letters (Fn : DfN F mg "is_letters" ["value", "low", "high"] s_is_letters) (gL : GlT F mg "LETTERS" (.str (sOf "abcdefghijklmnopqrstuvwxyz"))) (b1 : mg "isinstance" = none) (b2 : mg "len" = none) (b3 : mg "all" = none) (b4 : mg "str" = none) :
    Dt P w F mg base "is_letters" ["value", "low", "high"] 1 spLetters := by
  refine dt_ok Fn sc_is_letters (fun ds σ Q E h => ?_) (fun ds σ Q E Wx h => ?_)
  · obtain ⟨x, lo, hi, rfl, _⟩ := h
    rfl
  · obtain ⟨x, lo, hi, rfl, ht, hz, q⟩ := h
    refine tk_ret ?_ q
    cases x with
    | str s =>
      have hl := hz s rfl
      refine TV.castB (tv_and (r := true) (by walk_at "v") (fun _ => tv_and (tv_chain (by walk_at "v") (by walk_at "v") (fun _ => by walk_at "v") (by walk_at "o2") (fun _ => by walk_at "o2")) (fun _ => tv_one (tv_callB (by rfl) (by walk_at "as") (by walk_at "bt") (tva_cons (TV.castL (j := (s.map isLet).map DT.bl) (tv_lcM (own := [("sign", 3)]) (t := .nm 3) (by walk_at "tgt") (by walk_at "blk") (by decide) (tvi_str (by walk_at "v")) (by walk_at "len") (fun _ _ => rfl) (f := fun k => .bl (isLet k)) (fun a _ => ?_)) (by rw [List.map_map]; rfl)) tva_nil) (pf_all lsT_l))))) ?_
      · refine TV.castB (by walk_at "v") ?_
        rw [sOf_LET, mem_LET]
      · unfold isLettersV
        simp [List.all_map, Bool.and_assoc]
    | non => exact TV.castB (tv_and (r := false) (s := true) (by walk_at "v") (fun z => nomatch z)) rfl
    | bl b => exact TV.castB (tv_and (r := false) (s := true) (by walk_at "v") (fun z => nomatch z)) rfl
    | int i => exact TV.castB (tv_and (r := false) (s := true) (by walk_at "v") (fun z => nomatch z)) rfl
    | lst xs => exact TV.castB (tv_and (r := false) (s := true) (by walk_at "v") (fun z => nomatch z)) rfl
    | tup xs => exact TV.castB (tv_and (r := false) (s := true) (by walk_at "v") (fun z => nomatch z)) rfl
    | dct xs => exact TV.castB (tv_and (r := false) (s := true) (by walk_at "v") (fun z => nomatch z)) rfl
    | ref p =>
      have ht : (tyT σ (.ref p)).isSome = true := ht
      unfold tyT at ht
      cases e : σ p with
      | none => simp [e] at ht
      | some c =>
        cases c with
        | lst xs => exact TV.castB (tv_and (r := false) (s := true) (tv_callB (by rfl) (by walk_at "as") (by walk_at "bt") (by walk_at "va") (pf_isi (t := "list") (by simp [tyT, e]) (by decide +kernel))) (fun z => nomatch z)) rfl
        | dct xs => exact TV.castB (tv_and (r := false) (s := true) (tv_callB (by rfl) (by walk_at "as") (by walk_at "bt") (by walk_at "va") (pf_isi (t := "dict") (by simp [tyT, e]) (by decide +kernel))) (fun z => nomatch z)) rfl
        | obj C xs => simp [e] at ht
        | any q0 Φ => simp [e] at ht
    | seq xs => cases ht
    | obj C xs => cases ht
    | ty n => cases ht
    | exc C xs => cases ht
    | hot a d xs => cases ht
    | dco xs => cases ht
theorem v_is_letters {c : Ct} {ρ : EnvT} {σ : Sg} {x : DT} {lo hi : Int} {a : Expr} {es : List Expr} {pos p : Pos} (L : DtQ c.hp c.P c.w c.K c.mg c.base "is_letters" ["value", "low", "high"] 1 spLetters) (hk : 1 ≤ c.k) (hg : GlS c "is_letters") (ha : TVA c (a :: es) ρ σ [x, .int lo, .int hi]) (ht : (tyT σ x).isSome = true) (hz : ∀ s, x = .str s → s.length ≤ 1000000)
    (he : ∀ env, starEach (a :: es) env = (false, eval a env) :: starEach es env := by intro _; rfl) (hpl : ∀ pos env, (backTo pos (starEach es env)).any (·.1) = false := by intro _ _; rfl) : TV c (.Call (.Name "is_letters" p) (a :: es) [] pos) ρ σ (.bl (isLettersV x lo hi)) :=
  tv_own L hk hg ha (fun q => ⟨_, _, _, rfl, ht, hz, q⟩) (by decide) he hpl
theorem ok_is_row (L : Dt P w F mg base "is_letters" ["value", "low", "high"] 1 spLetters) (Fn : DfN F mg "is_row" ["value"] s_is_row) (g : GlT F mg "MOST_LETTERS" (.int 200)) : Dt P w F mg base "is_row" ["value"] 2 spRow := by
  refine dt_ok Fn sc_is_row (fun ds σ Q E h => ?_) (fun ds σ Q E Wx h => ?_)
  · obtain ⟨x, rfl, _⟩ := h
    rfl
  · obtain ⟨x, rfl, ht, hz, q⟩ := h
    exact tk_ret (v_is_letters L (by walk_at "k") (by rfl) (by walk_at "va") ht hz) q
theorem v_is_row {c : Ct} {ρ : EnvT} {σ : Sg} {x : DT} {a : Expr} {es : List Expr} {pos p : Pos} (L : DtQ c.hp c.P c.w c.K c.mg c.base "is_row" ["value"] 2 spRow) (hk : 2 ≤ c.k) (hg : GlS c "is_row") (ha : TVA c (a :: es) ρ σ [x]) (ht : (tyT σ x).isSome = true) (hz : ∀ s, x = .str s → s.length ≤ 1000000)
    (he : ∀ env, starEach (a :: es) env = (false, eval a env) :: starEach es env := by intro _; rfl) (hpl : ∀ pos env, (backTo pos (starEach es env)).any (·.1) = false := by intro _ _; rfl) : TV c (.Call (.Name "is_row" p) (a :: es) [] pos) ρ σ (.bl (isRowV x)) :=
  tv_own L hk hg ha (fun q => ⟨_, rfl, ht, hz, q⟩) (by decide) he hpl
end
end Y

/-! ### tables: counts, making -/
namespace Y
open PySem PySem.Spec L2 SX Z
abbrev CS := List (List Nat × Int)
def cT (t : CS) : CK := t.map fun p => (.inr p.1, p.2)
def cD (t : CS) : List (DK × DT) := iD (cT t)
def cget (t : CS) (k : List Nat) : Option Int := ivl (cT t) (.inr k)
def csum (t : CS) : Int := (t.map (·.2)).sum
def srtC (t : CS) : CS := (srtT (t.map (·.1))).map fun k => (k, (cget t k).getD 0)
structure CSok (w : Nat) (t : CS) : Prop where
  nd : (t.map (·.1)).Nodup
  key : ∀ p ∈ t, p.1.length = w ∧ p.1.all isLet = true
  pos : ∀ p ∈ t, 1 ≤ p.2
  sum : csum t + w ≤ 201
def tabT (C : Addr) (w : Nat) (t : CS) : DT := .obj C [("letters", .int (w : Int)), ("found", .dct (cD t))]
theorem cD_get (t : CS) (k : List Nat) : dvl (cD t) (.inr k) = (cget t k).map DT.int := dvl_iD _ _
theorem cD_keys (t : CS) : (cD t).map (·.1) = (t.map (·.1)).map Sum.inr := by unfold cD iD cT; simp [List.map_map, Function.comp_def]
theorem cD_walk (t : CS) : ((cD t).map fun x => dk x.1) = t.map fun p => DT.str p.1 := by unfold cD iD cT; simp [List.map_map, Function.comp_def, dk]
theorem cget_cons (p : List Nat × Int) (t : CS) (k : List Nat) : cget (p :: t) k = if p.1 = k then some p.2 else cget t k := by
  unfold cget ivl cT
  rw [List.map_cons, List.find?_cons]
  by_cases e : p.1 = k
  · simp [e]
  · simp [e]
theorem cget_mem {t : CS} (h : (t.map (·.1)).Nodup) : ∀ p ∈ t, cget t p.1 = some p.2 := by
  induction t with
  | nil => intro p hp; cases hp
  | cons q t ih =>
    intro p hp
    rw [List.map_cons, List.nodup_cons] at h
    rw [cget_cons]
    rcases List.mem_cons.mp hp with e | hp
    · rw [e, if_pos rfl]
    · rw [if_neg (fun e : q.1 = p.1 => h.1 (by rw [e]; exact List.mem_map.mpr ⟨p, hp, rfl⟩))]
      exact ih h.2 p hp
theorem CSok.len {w : Nat} {t : CS} (h : CSok w t) : (t.length : Int) ≤ csum t := by
  have : ∀ l : CS, (∀ p ∈ l, 1 ≤ p.2) → (l.length : Int) ≤ csum l := by
    intro l
    induction l with
    | nil => intro _; exact Int.le_refl _
    | cons p l ih =>
      intro hp
      have h1 := hp p List.mem_cons_self
      have h2 := ih fun q hq => hp q (List.mem_cons_of_mem _ hq)
      unfold csum at h2 ⊢
      rw [List.map_cons, List.sum_cons, List.length_cons]
      omega
  exact this t h.pos
def spInt : TSpec := fun ds σ Q E => ∃ (i lo : Int) (hi : Option Int), ds = [.int i, .int lo, (match hi with | some h => .int h | none => .non)] ∧ Q (.bl (decide (lo ≤ i) && (match hi with | some h => decide (i ≤ h) | none => true))) σ
def spMost : TSpec := fun ds σ Q E => ∃ w : Int, ds = [.int w] ∧ Q (.int (200 - w + 1)) σ
def spIsCounts : TSpec := fun ds σ Q E => ∃ (w : Nat) (t : CS), ds = [.int (w : Int), .dct (cD t)] ∧ 1 ≤ w ∧ w ≤ 12 ∧ CSok w t ∧ Q (.bl true) σ
def spInit (C : Addr) : TSpec := fun ds σ Q E => ∃ (p : Addr) (w : Nat) (t : CS), ds = [.ref p, .int (w : Int), .dct (cD t)] ∧ σ p = some (.obj C []) ∧ 1 ≤ w ∧ w ≤ 12 ∧ CSok w t ∧ Q .non (su σ p (.obj C [("letters", .int (w : Int)), ("found", .dct (cD (srtC t)))]))
section
variable {P : Program} {w : World} {F : PySem.W.Frag} {mg : Str → Option Value} {base : Heap}
set_option maxHeartbeats 200000 in
theorem ok_is_integer (Fn : DfN F mg "is_integer" ["value", "low", "high"] s_is_integer) (b1 : mg "isinstance" = none) (b2 : mg "int" = none) (b3 : mg "bool" = none) : Dt P w F mg base "is_integer" ["value", "low", "high"] 1 spInt := by
  refine dt_ok Fn sc_is_integer (fun ds σ Q E h => ?_) (fun ds σ Q E Wx h => ?_)
  · obtain ⟨i, lo, hi, rfl, _⟩ := h
    rfl
  · obtain ⟨i, lo, hi, rfl, q⟩ := h
    cases hi with
    | none =>
      dsimp only at q ⊢
      refine tk_ifF (TB.cast (tb_W (tbw_or (tb_not (tb_val (tv_callB (by rfl) (by walk_at "as") (by walk_at "bt") (by walk_at "va") (pf_isi (r := true) (by rfl) (by decide +kernel))))) (fun _ => tbw_or1 (tb_val (tv_callB (by rfl) (by walk_at "as") (by walk_at "bt") (by walk_at "va") (pf_isi (r := false) (by rfl) (by decide +kernel))))))) (by rfl)) (tk_nil ?_)
      exact tk_ret (TV.castB (tv_and (by walk_at "v") (fun _ => tv_one (tv_or (r := true) (s := true) (TV.castB (i := isNon .non) (by walk_at "v") rfl) (fun z => nomatch z)))) (by rfl)) q
    | some h =>
      dsimp only at q ⊢
      refine tk_ifF (TB.cast (tb_W (tbw_or (tb_not (tb_val (tv_callB (by rfl) (by walk_at "as") (by walk_at "bt") (by walk_at "va") (pf_isi (r := true) (by rfl) (by decide +kernel))))) (fun _ => tbw_or1 (tb_val (tv_callB (by rfl) (by walk_at "as") (by walk_at "bt") (by walk_at "va") (pf_isi (r := false) (by rfl) (by decide +kernel))))))) (by rfl)) (tk_nil ?_)
      exact tk_ret (TV.castB (tv_and (by walk_at "v") (fun _ => tv_one (tv_or (r := false) (TV.castB (i := isNon (.int h)) (by walk_at "v") rfl) (fun _ => tv_one (by walk_at "v"))))) (by rfl)) q
set_option maxHeartbeats 200000 in
theorem ok_most (Fn : DfN F mg "most_windows" ["width"] s_most_windows) (g : GlT F mg "MOST_LETTERS" (.int 200)) : Dt P w F mg base "most_windows" ["width"] 1 spMost := by
  refine dt_ok Fn sc_most_windows (fun ds σ Q E h => ?_) (fun ds σ Q E Wx h => ?_)
  · obtain ⟨i, rfl, _⟩ := h
    rfl
  · obtain ⟨i, rfl, q⟩ := h
    exact tk_ret (by walk_at "v") q
theorem all_true {α : Type} (l : List α) : (l.map fun _ => true).all id = true := by simp
set_option maxHeartbeats 200000 in
theorem ok_is_counts (L1 : Dt P w F mg base "is_integer" ["value", "low", "high"] 1 spInt) (L2 : Dt P w F mg base "is_letters" ["value", "low", "high"] 1 spLetters) (L3 : Dt P w F mg base "most_windows" ["width"] 1 spMost)
    (Fn : DfN F mg "is_counts" ["width", "value"] s_is_counts) (b1 : mg "isinstance" = none) (b2 : mg "dict" = none) (b3 : mg "all" = none) (b4 : mg "sum" = none) : Dt P w F mg base "is_counts" ["width", "value"] 2 spIsCounts := by
  refine dt_ok Fn sc_is_counts (fun ds σ Q E h => ?_) (fun ds σ Q E Wx h => ?_)
  · obtain ⟨w, t, rfl, _⟩ := h
    rfl
  · obtain ⟨w, t, rfl, w1, w2, ok, q⟩ := h
    have hn : t.length ≤ 1000000 := by have := ok.len; have := ok.sum; omega
    have e1 : (t.map fun p => DT.bl true) = (t.map fun _ => true).map DT.bl := by rw [List.map_map]; rfl
    have e2 : (t.map fun p => DT.int p.2) = (t.map (·.2)).map DT.int := by rw [List.map_map]; rfl
    refine tk_ifF (TB.cast (tb_W (tbw_or (tb_not (tb_val (tv_callB (by rfl) (by walk_at "as") (by walk_at "bt") (by walk_at "va") (pf_isi (r := true) (by rfl) (by decide +kernel))))) (fun _ => tbw_or1 (tb_not (tb_val (tv_callB (by rfl) (by walk_at "as") (by walk_at "bt") (tva_cons (TV.castL (tv_lcM (α := List Nat × Int) (l := t) (g := fun p => .str p.1) (f := fun _ => .bl true) (own := [("window", 2)]) (t := .nm 2) (by walk_at "tgt") (by walk_at "blk") (by decide) (cD_walk t ▸ tvi_keys (by walk_at "v")) hn (fun _ _ => rfl)
      (fun p hp => TV.castB (v_is_letters L2 (by walk_at "k") (by rfl) (by walk_at "va") rfl (fun s e => by cases e; have := (ok.key p hp).1; omega)) (by
        obtain ⟨k1, k2⟩ := ok.key p hp
        unfold isLettersV
        simp only [k1, k2, Bool.and_true, Bool.and_eq_true, decide_eq_true_eq]
        omega))) e1) tva_nil) (pf_all lsT_l))))))) (by rw [all_true]; rfl)) (tk_nil ?_)
    refine tk_ifF (TB.cast (tb_not (tb_val (tv_callB (by rfl) (by walk_at "as") (by walk_at "bt") (tva_cons (TV.castL (tv_lcM (α := List Nat × Int) (l := t) (g := fun p => .str p.1) (f := fun _ => .bl true) (own := [("window", 2)]) (t := .nm 2) (by walk_at "tgt") (by walk_at "blk") (by decide) (cD_walk t ▸ tvi_keys (by walk_at "v")) hn (fun _ _ => rfl)
      (fun p hp => tv_own L1 (by walk_at "k") (by rfl) (tva_cons (tv_dix (d := .int p.2) (k := .inr p.1) (by walk_at "v") (by walk_at "v") diT_l (by rw [cD_get, cget_mem ok.nd p hp]; rfl)) (by walk_at "va")) (fun q => ⟨p.2, 1, none, rfl, by have := ok.pos p hp; rw [decide_eq_true this]; exact q⟩))) e1) tva_nil) (pf_all lsT_l)))) (by rw [all_true]; rfl)) (tk_nil ?_)
    refine tk_ret (TV.castB (j := true) (tv_cmp (tv_callB (by rfl) (by walk_at "as") (by walk_at "bt") (tva_cons (TV.castL (tv_lcM (α := List Nat × Int) (l := t) (g := fun p => .str p.1) (f := fun p => .int p.2) (own := [("window", 2)]) (t := .nm 2) (by walk_at "tgt") (by walk_at "blk") (by decide) (cD_walk t ▸ tvi_keys (by walk_at "v")) hn (fun _ _ => rfl)
      (fun p hp => tv_dix (d := .int p.2) (k := .inr p.1) (by walk_at "v") (by walk_at "v") diT_l (by rw [cD_get, cget_mem ok.nd p hp]; rfl))) e2) tva_nil) (pf_sum lsT_l)) (tv_own (d := .int (200 - (w : Int) + 1)) L3 (by walk_at "k") (by rfl) (by walk_at "va") (fun q => ⟨_, rfl, q⟩)) (by walk_at "o2") (by rfl)) ?_) q
    have := ok.sum
    unfold csum at this
    exact decide_eq_true (by omega)
set_option maxHeartbeats 400000 in
theorem ok_tab_init {C : Addr} {f : Addr} {fd : FuncData} {qual : Str} (L1 : Dt P w F mg base "is_integer" ["value", "low", "high"] 1 spInt) (L2 : Dt P w F mg base "is_counts" ["width", "value"] 2 spIsCounts) (hc : Cls F C) (n1 : NoAttr F C "letters") (n2 : NoAttr F C "found")
    (Fn : Fun F "__init__" qual s_Table_init f fd) (g : GlT F mg "WIDEST" (.int 12)) (b1 : mg "sorted" = none) : FnG P w F mg base 3 f fd ["self", "width", "counts"] (spT F (spInit C)) := by
  refine fnT_ok Fn sc_Table_init (fun ds σ Q E h => ?_) (fun ds σ Q E Wx h => ?_)
  · obtain ⟨p, w, t, rfl, _⟩ := h
    rfl
  · obtain ⟨p, w, t, rfl, hp, w1, w2, ok, q⟩ := h
    refine tk_ifF (TB.cast (tb_not (tb_val (tv_own (d := .bl true) L1 (by walk_at "k") (by rfl) (by walk_at "va") (fun q => ⟨(w : Int), 1, some 12, rfl, by
      have a1 : (1 : Int) ≤ w := by omega
      have a2 : (w : Int) ≤ 12 := by omega
      simp only [decide_eq_true a1, decide_eq_true a2]
      exact q⟩)))) (by rfl)) (tk_nil ?_)
    refine tk_ifF (TB.cast (tb_not (tb_val (tv_own (d := .bl true) L2 (by walk_at "k") (by rfl) (by walk_at "va") (fun q => ⟨w, t, rfl, w1, w2, ok, q⟩)))) (by rfl)) (tk_nil ?_)
    refine tk_cons (ts_setFld ((by walk_at "v" : TV _ _ _ _ (.int (w : Int))).to ((by walk_at "v" : TV _ _ _ _ (.ref p)).to ⟨p, C, [], rfl, hp, hc, n1, Nat.le_of_ble_eq_true rfl, ?_⟩)))
    have hn : (srtT (t.map (·.1))).length ≤ 1000000 := by
      have a := ok.len
      have b := ok.sum
      have c := (srtT_perm (t.map (·.1))).length_eq
      rw [List.length_map] at c
      omega
    have mem : ∀ k ∈ srtT (t.map (·.1)), ∃ i, cget t k = some i := fun k hk => by
      obtain ⟨p, hp, rfl⟩ := List.mem_map.mp ((srtT_perm _).mem_iff.mp hk)
      exact ⟨_, cget_mem ok.nd p hp⟩
    have nd : ((srtT (t.map (·.1))).map (Sum.inr : List Nat → DK)).Nodup := (List.pairwise_map.mpr (((srtT_perm _).nodup_iff.mpr ok.nd).imp fun {a b} h e => h (Sum.inr.inj e)))
    have e1 : (srtT (t.map (·.1))).map (fun k => ((Sum.inr k : DK), DT.int ((cget t k).getD 0))) = cD (srtC t) := by
      unfold cD iD cT srtC
      simp [List.map_map, Function.comp_def]
    refine tk_cons (ts_setFld ((e1 ▸ tv_dc (α := List Nat) (l := srtT (t.map (·.1))) (g := DT.str) (kf := Sum.inr) (vf := fun k => .int ((cget t k).getD 0)) (own := [("window", 3)]) (t := .nm 3) (by walk_at "tgt") (by walk_at "blk") (by decide) (tvi_lst (tv_callB (by rfl) (by walk_at "as") (by walk_at "bt") (by walk_at "va") (pf_sortedDT diT_l (cD_keys t)))) hn (fun _ _ => rfl)
      (fun k hk => ⟨by walk_at "v", by
        obtain ⟨i, hi⟩ := mem k hk
        exact tv_dix (k := .inr k) (by walk_at "v") (by walk_at "v") diT_l (by rw [cD_get, hi]; rfl)⟩) nd : TV _ _ _ _ (.dct (cD (srtC t)))).to ((by walk_at "v" : TV _ _ _ _ (.ref p)).to ⟨p, C, _, rfl, su_same, hc, n2, Nat.le_of_ble_eq_true rfl, ?_⟩)))
    rw [su_su]
    exact tk_nil q
end
end Y

/-! ### tables: what their methods answer -/
namespace Y
open PySem PySem.Spec L2 SX Z
/-- what isinstance asks of the class -/
structure TyC (F : PySem.W.Frag) (C : Addr) : Prop where
  ha : PySem.W.findIn F (.ref C) "__class__" = some (some (.builtin "object.__class__"))
  hn : PySem.W.specialIn F (.builtin "object.__class__") "__get__" = some (some (.builtin "getset_descriptor.__get__"))
  ht : PySem.W.takesIn F (.builtin "object.__class__") = some true
  hm : PySem.W.mroIn F C (.type "object") = some true
def spTimes (C : Addr) : TSpec := fun ds σ Q E => ∃ (w : Nat) (t : CS) (k : List Nat), ds = [tabT C w t, .str k] ∧ k.length = w ∧ w ≤ 12 ∧ k.all isLet = true ∧ Q (.int ((cget t k).getD 0)) σ
section
variable {P : Program} {w : World} {F : PySem.W.Frag} {mg : Str → Option Value} {base : Heap} {C f : Addr} {fd : FuncData} {qual : Str}
local macro_rules | `(tactic| walk_at "fl") => `(tactic| exact tv_fld (by walk_at "v") (.inl rfl) (by assumption) (by assumption) (by rfl))
theorem CSok.small {w : Nat} {t : CS} (h : CSok w t) : t.length ≤ 1000000 := by have := h.len; have := h.sum; omega
set_option maxHeartbeats 200000 in
theorem ok_tab_times (L : Dt P w F mg base "is_letters" ["value", "low", "high"] 1 spLetters) (hc : Cls F C) (n1 : NoAttr F C "letters") (n2 : NoAttr F C "found") (Fn : Fun F "times_of" qual s_Table_times_of f fd) : FnG P w F mg base 2 f fd ["self", "window"] (spT F (spTimes C)) := by
  refine fnT_ok Fn sc_Table_times_of (fun ds σ Q E h => ?_) (fun ds σ Q E Wx h => ?_)
  · obtain ⟨w, t, k, rfl, _⟩ := h
    rfl
  · obtain ⟨w, t, k, rfl, k1, w2, k2, q⟩ := h
    unfold tabT
    refine tk_ifF (TB.cast (tb_not (tb_val (TV.castB (j := true) (v_is_letters L (by walk_at "k") (by rfl) (tva_cons (by walk_at "v") (tva_cons (by walk_at "fl") (tva_cons (by walk_at "fl") tva_nil))) rfl (fun s e => by cases e; omega)) (by
      unfold isLettersV
      simp only [k1, k2, Bool.and_true, Bool.and_eq_true, decide_eq_true_eq]
      omega)))) (by rfl)) (tk_nil ?_)
    refine tk_ret (TV.cast (tv_meth PySem.F.plainAttrs_dict PySem.F.slot_dict_get PySem.F.type_dict_get (by walk_at "fl") (ty_dct diT_l) (by walk_at "va") (pm_get2 (k := .inr k) (d := .int 0) diT_l)) ?_) q
    rw [cD_get]
    cases cget t k <;> rfl
end
end Y

/-! ### tables of rows -/
namespace Y
open PySem PySem.Spec L2 SX Z
def winL (r : List Nat) (w : Nat) : List (List Nat) := (List.range (r.length + 1 - w)).map fun i => (r.drop i).take w
/-- one window more -/
def addC (t : CS) (k : List Nat) : CS := if (t.any fun p => decide (p.1 = k)) = true then t.map (fun p => if p.1 = k then (p.1, (cget t k).getD 0 + 1) else p) else t ++ [(k, 1)]
def tal (l : List (List Nat)) : CS := l.foldl addC []
theorem cget_none {t : CS} {k : List Nat} (h : (t.any fun p => decide (p.1 = k)) = false) : cget t k = none := by
  induction t with
  | nil => rfl
  | cons p t ih =>
    rw [List.any_cons, Bool.or_eq_false_iff] at h
    rw [cget_cons, if_neg (of_decide_eq_false h.1)]
    exact ih h.2
theorem cD_any (t : CS) (k : List Nat) : ((cD t).any fun e => decide (e.1 = Sum.inr k)) = t.any fun p => decide (p.1 = k) := by
  unfold cD iD cT
  rw [List.map_map, List.any_map]
  congr 1
  funext p
  simp
theorem cD_add (t : CS) (k : List Nat) : putT (cD t) (.inr k) (.int ((cget t k).getD 0 + 1)) = cD (addC t k) := by
  unfold putT addC
  rw [cD_any]
  cases h : t.any fun p => decide (p.1 = k) with
  | true =>
    simp only [if_true]
    unfold cD iD cT
    simp only [List.map_map]
    refine List.map_congr_left fun p _ => ?_
    by_cases e : p.1 = k
    · simp [e]
    · simp [e]
  | false =>
    rw [cget_none h]
    simp [cD, iD, cT]
theorem tal_snoc (l : List (List Nat)) (k : List Nat) : tal (l ++ [k]) = addC (tal l) k := by unfold tal; rw [List.foldl_append]; rfl
theorem addC_keys (t : CS) (k : List Nat) : ∀ x, x ∈ (addC t k).map (·.1) ↔ x ∈ t.map (·.1) ∨ x = k := by
  intro x
  unfold addC
  cases h : t.any fun p => decide (p.1 = k) with
  | true =>
    rw [if_pos rfl]
    have e : ((t.map fun p => if p.1 = k then (p.1, (cget t k).getD 0 + 1) else p).map (·.1)) = t.map (·.1) := by
      rw [List.map_map]
      refine List.map_congr_left fun p _ => ?_
      show (if p.1 = k then (p.1, (cget t k).getD 0 + 1) else p).1 = p.1
      split <;> rfl
    rw [e]
    obtain ⟨p, hp, hk⟩ := List.any_eq_true.mp h
    have : k ∈ t.map (·.1) := List.mem_map.mpr ⟨p, hp, of_decide_eq_true hk⟩
    exact ⟨.inl, fun z => z.elim id fun z => z ▸ this⟩
  | false => simp
theorem addC_nd {t : CS} {k : List Nat} (h : (t.map (·.1)).Nodup) : ((addC t k).map (·.1)).Nodup := by
  unfold addC
  cases e : t.any fun p => decide (p.1 = k) with
  | true =>
    rw [if_pos rfl]
    have e2 : ((t.map fun p => if p.1 = k then (p.1, (cget t k).getD 0 + 1) else p).map (·.1)) = t.map (·.1) := by
      rw [List.map_map]
      refine List.map_congr_left fun p _ => ?_
      show (if p.1 = k then (p.1, (cget t k).getD 0 + 1) else p).1 = p.1
      split <;> rfl
    rw [e2]
    exact h
  | false =>
    rw [if_neg (by decide), List.map_append, List.nodup_append]
    refine ⟨h, by simp, fun a ha b hb => ?_⟩
    obtain ⟨p, hp, rfl⟩ := List.mem_map.mp ha
    have := List.any_eq_false.mp e p hp
    simp only [List.map_cons, List.map_nil, List.mem_singleton] at hb
    rw [hb]
    simpa using this
theorem tal_nd (l : List (List Nat)) : ((tal l).map (·.1)).Nodup := by
  have : ∀ (l : List (List Nat)) (t : CS), (t.map (·.1)).Nodup → ((l.foldl addC t).map (·.1)).Nodup := by
    intro l
    induction l with
    | nil => intro t h; exact h
    | cons k l ih => intro t h; exact ih _ (addC_nd h)
  exact this l [] List.nodup_nil
theorem tal_len (l : List (List Nat)) : (tal l).length ≤ l.length := by
  have one : ∀ (t : CS) (k : List Nat), (addC t k).length ≤ t.length + 1 := fun t k => by
    unfold addC
    split
    · rw [List.length_map]; omega
    · simp
  have : ∀ (l : List (List Nat)) (t : CS), (l.foldl addC t).length ≤ t.length + l.length := by
    intro l
    induction l with
    | nil => intro t; exact Nat.le_refl _
    | cons k l ih =>
      intro t
      have a := ih (addC t k)
      have b := one t k
      rw [List.foldl_cons, List.length_cons]
      omega
  have := this l []
  simpa [tal] using this
def spWins : TSpec := fun ds σ Q E => ∃ (r : List Nat) (w : Nat), ds = [.str r, .int (w : Int)] ∧ r.length ≤ 200 ∧ w ≤ 200 ∧ Q (.lst ((winL r w).map DT.str)) σ
def spCountsIn : TSpec := fun ds σ Q E => ∃ (r : List Nat) (w : Nat), ds = [.str r, .int (w : Int)] ∧ r.length ≤ 200 ∧ w ≤ 200 ∧ Q (.dct (cD (srtC (tal (winL r w))))) σ
section
variable {P : Program} {w : World} {F : PySem.W.Frag} {mg : Str → Option Value} {base : Heap}
set_option maxHeartbeats 200000 in
theorem ok_windows_in (Fn : DfN F mg "windows_in" ["row", "width"] s_windows_in) (b1 : mg "range" = none) (b2 : mg "len" = none) : Dt P w F mg base "windows_in" ["row", "width"] 1 spWins := by
  refine dt_ok Fn sc_windows_in (fun ds σ Q E h => ?_) (fun ds σ Q E Wx h => ?_)
  · obtain ⟨r, w, rfl, _⟩ := h
    rfl
  · obtain ⟨r, w, rfl, hr, hw, q⟩ := h
    have e1 : ((r.length : Int) - w + 1).toNat = r.length + 1 - w := by omega
    have e2 : ((List.range (((r.length : Int) - w + 1).toNat)).map fun i => DT.str ((r.drop i).take w)) = (winL r w).map DT.str := by rw [e1]; unfold winL; rw [List.map_map]; rfl
    refine tk_ret (TV.castL (tv_lcM (α := Nat) (l := List.range (((r.length : Int) - w + 1).toNat)) (g := fun i => .int (i : Int)) (f := fun i => .str ((r.drop i).take w)) (own := [("place", 2)]) (t := .nm 2) (by walk_at "tgt") (by walk_at "blk") (by decide) (⟨fun q => ti_range1 (by rfl) (by walk_at "as") (te_v (by walk_at "v") ⟨_, rfl, by omega, q⟩)⟩) (by rw [List.length_range]; omega) (fun _ _ => rfl)
      (fun i _ => TV.castS (by walk_at "v") ((Z.cut_two (i := i) (j := i + w) rfl (by omega)).trans (by rw [Nat.add_sub_cancel_left])))) e2) q
theorem win_len (r : List Nat) (w : Nat) : (winL r w).length = r.length + 1 - w := by unfold winL; simp
set_option maxHeartbeats 400000 in
theorem ok_counts_in (L : Dt P w F mg base "windows_in" ["row", "width"] 1 spWins) (Fn : DfN F mg "counts_in" ["row", "width"] s_counts_in) (b1 : mg "sorted" = none) : Dt P w F mg base "counts_in" ["row", "width"] 2 spCountsIn := by
  refine dt_ok Fn sc_counts_in (fun ds σ Q E h => ?_) (fun ds σ Q E Wx h => ?_)
  · obtain ⟨r, w, rfl, _⟩ := h
    rfl
  · obtain ⟨r, w, rfl, hr, hw, q⟩ := h
    have hwn : (winL r w).length ≤ 201 := by rw [win_len]; omega
    refine tk_set (i := 2) (by walk_at "sto") (te_dict0 fun p hp => ?_)
    refine tk_cons (ts_for (t := .nm 3) (by walk_at "tgt") ((tvi_lst (ds := (winL r w).map DT.str) (tv_own L (by walk_at "k") (by rfl) (by walk_at "va") (fun q => ⟨r, w, rfl, hr, hw, q⟩))).to ?_))
    refine ⟨fun i ρ1 σ2 => ∃ o, σ2 = su σ p (.dct (cD (tal ((winL r w).take i)))) ∧ ρ1 = [some (.str r), some (.int (w : Int)), some (.ref p), o], ⟨none, rfl, rfl⟩, ?_, ?_⟩
    · rintro i d ρ1 σ2 hd ⟨o, rfl, rfl⟩
      rw [List.getElem?_map] at hd
      obtain ⟨k, hk, rfl⟩ := Option.map_eq_some_iff.mp hd
      have tk : (winL r w).take (i + 1) = (winL r w).take i ++ [k] := by rw [List.take_succ, hk]; rfl
      have hl : (cD (tal ((winL r w).take i))).length < 16777216 := by
        have a := tal_len ((winL r w).take i)
        have b : ((winL r w).take i).length ≤ 201 := by rw [List.length_take]; omega
        have e : (cD (tal ((winL r w).take i))).length = (tal ((winL r w).take i)).length := by simp [cD, iD, cT]
        omega
      have eg : (dvl (cD (tal ((winL r w).take i))) (.inr k)).getD (.int 0) = .int ((cget (tal ((winL r w).take i)) k).getD 0) := by
        rw [cD_get]
        cases cget (tal ((winL r w).take i)) k <;> rfl
      refine ⟨_, rfl, ?_⟩
      refine tk_cons (ts_setItemD ((tv_bin (TV.cast (tv_meth PySem.F.plainAttrs_dict PySem.F.slot_dict_get PySem.F.type_dict_get (by walk_at "v") (ty_dct (diT_c su_same)) (by walk_at "va") (pm_get2 (k := .inr k) (d := .int 0) (diT_c su_same))) eg) (by walk_at "v") po_addI).to ((by walk_at "v" : TV _ _ _ _ (.ref p)).to ((by walk_at "v" : TV _ _ _ _ (.str k)).to ⟨p, _, .inr k, rfl, rfl, su_same, hl, ?_⟩))))
      rw [su_su, cD_add, ← tal_snoc, ← tk]
      exact tk_nil ⟨_, rfl, rfl⟩
    · rintro ρ1 σ2 ⟨o, rfl, rfl⟩
      rw [List.length_map, List.take_length]
      have nd0 := tal_nd (winL r w)
      have ln := tal_len (winL r w)
      have hn : (srtT ((tal (winL r w)).map (·.1))).length ≤ 1000000 := by
        have c := (srtT_perm ((tal (winL r w)).map (·.1))).length_eq
        rw [List.length_map] at c
        omega
      have nd : ((srtT ((tal (winL r w)).map (·.1))).map (Sum.inr : List Nat → DK)).Nodup := (List.pairwise_map.mpr (((srtT_perm _).nodup_iff.mpr nd0).imp fun {a b} h e => h (Sum.inr.inj e)))
      have mem : ∀ k ∈ srtT ((tal (winL r w)).map (·.1)), ∃ i, cget (tal (winL r w)) k = some i := fun k hk => by
        obtain ⟨p, hp, rfl⟩ := List.mem_map.mp ((srtT_perm _).mem_iff.mp hk)
        exact ⟨_, cget_mem nd0 p hp⟩
      have e1 : (srtT ((tal (winL r w)).map (·.1))).map (fun k => ((Sum.inr k : DK), DT.int ((cget (tal (winL r w)) k).getD 0))) = cD (srtC (tal (winL r w))) := by
        unfold cD iD cT srtC
        simp [List.map_map, Function.comp_def]
      refine tk_cons (ts_ret (te_drop p ((TV.cast (tv_dc (α := List Nat) (l := srtT ((tal (winL r w)).map (·.1))) (g := DT.str) (kf := Sum.inr) (vf := fun k => .int ((cget (tal (winL r w)) k).getD 0)) (own := [("window", 3)]) (t := .nm 3) (by walk_at "tgt") (by walk_at "blk") (by decide) (tvi_lst (tv_callB (by rfl) (by walk_at "as") (by walk_at "bt") (by walk_at "va") (pf_sortedDT (diT_c su_same) (cD_keys _)))) hn (fun _ _ => rfl)
        (fun k hk => ⟨by walk_at "v", by
          obtain ⟨i, hi⟩ := mem k hk
          exact tv_dix (k := .inr k) (by walk_at "v") (by walk_at "v") (diT_c su_same) (by rw [cD_get, hi]; rfl)⟩) nd) (congrArg DT.dct e1)).to ?_)))
      rw [sd_su hp]
      exact q
end
end Y

/-! ### tallies in order; the table of a row -/
namespace Y
open PySem PySem.Spec L2 SX Z
theorem cget_iff {t : CS} (h : (t.map (·.1)).Nodup) {k : List Nat} {i : Int} : cget t k = some i ↔ (k, i) ∈ t := by
  constructor
  · intro e
    induction t with
    | nil => cases e
    | cons p t ih =>
      rw [cget_cons] at e
      rw [List.map_cons, List.nodup_cons] at h
      by_cases c : p.1 = k
      · rw [if_pos c] at e
        rw [← Option.some.inj e, ← c]
        exact List.mem_cons_self
      · rw [if_neg c] at e
        exact List.mem_cons_of_mem _ (ih h.2 e)
  · intro m
    exact cget_mem h _ m
theorem cget_perm {t u : CS} (p : t.Perm u) (h : (t.map (·.1)).Nodup) (k : List Nat) : cget t k = cget u k := by
  have h2 : (u.map (·.1)).Nodup := (p.map (·.1)).nodup_iff.mp h
  cases e : cget t k with
  | some i => exact ((cget_iff h2).mpr (p.mem_iff.mp ((cget_iff h).mp e))).symm
  | none =>
    cases e2 : cget u k with
    | none => rfl
    | some j =>
      rw [(cget_iff h).mpr (p.mem_iff.mpr ((cget_iff h2).mp e2))] at e
      cases e
theorem srtC_perm {t : CS} (h : (t.map (·.1)).Nodup) : (srtC t).Perm t := by
  have a : ((t.map (·.1)).map fun k => (k, (cget t k).getD 0)) = t := by
    rw [List.map_map]
    conv => rhs; rw [← List.map_id t]
    refine List.map_congr_left fun p hp => ?_
    show (p.1, (cget t p.1).getD 0) = p
    rw [cget_mem h p hp]
    rfl
  have b := (srtT_perm (t.map (·.1))).map fun k => (k, (cget t k).getD 0)
  rw [a] at b
  exact b
theorem srtC_same {t u : CS} (p : t.Perm u) (h : (t.map (·.1)).Nodup) : srtC t = srtC u := by
  unfold srtC
  rw [srtT_same (p.map (·.1))]
  exact List.map_congr_left fun k _ => by rw [cget_perm p h k]
theorem csum_perm {t u : CS} (p : t.Perm u) : csum t = csum u := by
  unfold csum
  induction p with
  | nil => rfl
  | cons x _ ih => simp only [List.map_cons, List.sum_cons, ih]
  | swap x y l => simp only [List.map_cons, List.sum_cons]; omega
  | trans _ _ i1 i2 => exact i1.trans i2
theorem CSok.perm {w : Nat} {t u : CS} (p : t.Perm u) (h : CSok w t) : CSok w u := ⟨(p.map (·.1)).nodup_iff.mp h.nd, fun x hx => h.key x (p.mem_iff.mpr hx), fun x hx => h.pos x (p.mem_iff.mpr hx), by rw [← csum_perm p]; exact h.sum⟩
theorem CSok.srt {w : Nat} {t : CS} (h : CSok w t) : CSok w (srtC t) := h.perm (srtC_perm h.nd).symm
theorem srtC_srtC {t : CS} (h : (t.map (·.1)).Nodup) : srtC (srtC t) = srtC t := (srtC_same (srtC_perm h).symm h).symm
theorem rep_sum (k : List Nat) (v : Int) : ∀ t : CS, (t.map (·.1)).Nodup → (t.any fun p => decide (p.1 = k)) = true → csum (t.map fun p => if p.1 = k then (p.1, v) else p) = csum t - (cget t k).getD 0 + v
  | [], _, h => by cases h
  | p :: t, nd, h => by
    rw [List.map_cons, List.nodup_cons] at nd
    rw [cget_cons]
    by_cases c : p.1 = k
    · have e : (t.map fun p => if p.1 = k then (p.1, v) else p) = t := by
        conv => rhs; rw [← List.map_id t]
        refine List.map_congr_left fun q hq => ?_
        rw [if_neg (fun z : q.1 = k => nd.1 (by rw [c, ← z]; exact List.mem_map.mpr ⟨q, hq, rfl⟩))]
        rfl
      rw [List.map_cons, e, if_pos c, if_pos c]
      simp only [csum, List.map_cons, List.sum_cons, Option.getD_some]
      omega
    · rw [List.any_cons, decide_eq_false c, Bool.false_or] at h
      have ih := rep_sum k v t nd.2 h
      rw [List.map_cons, if_neg c, if_neg c]
      simp only [csum, List.map_cons, List.sum_cons] at ih ⊢
      omega
theorem csum_add {t : CS} {k : List Nat} (h : (t.map (·.1)).Nodup) : csum (addC t k) = csum t + 1 := by
  unfold addC
  cases e : t.any fun p => decide (p.1 = k) with
  | true =>
    rw [if_pos rfl, rep_sum k _ t h e]
    omega
  | false => simp [csum]
theorem addC_pos {t : CS} {k : List Nat} (h : ∀ p ∈ t, 1 ≤ p.2) : ∀ p ∈ addC t k, 1 ≤ p.2 := by
  have g : 0 ≤ (cget t k).getD 0 := by
    cases e : cget t k with
    | none => exact Int.le_refl _
    | some i =>
      have : ∀ u : CS, (∀ p ∈ u, 1 ≤ p.2) → cget u k = some i → 1 ≤ i := by
        intro u
        induction u with
        | nil => intro _ e; cases e
        | cons p u ih =>
          intro hu e
          rw [cget_cons] at e
          by_cases c : p.1 = k
          · rw [if_pos c] at e
            rw [← Option.some.inj e]
            exact hu p List.mem_cons_self
          · rw [if_neg c] at e
            exact ih (fun q hq => hu q (List.mem_cons_of_mem _ hq)) e
      have := this t h e
      show 0 ≤ i
      omega
  intro p hp
  unfold addC at hp
  split at hp
  · obtain ⟨q, hq, rfl⟩ := List.mem_map.mp hp
    split
    · show 1 ≤ (cget t k).getD 0 + 1
      omega
    · exact h q hq
  · rcases List.mem_append.mp hp with hp | hp
    · exact h p hp
    · rw [List.mem_singleton.mp hp]
      exact Int.le_refl _
theorem tal_all (l : List (List Nat)) : csum (tal l) = l.length ∧ (∀ p ∈ tal l, 1 ≤ p.2) ∧ ∀ x, x ∈ (tal l).map (·.1) ↔ x ∈ l := by
  have : ∀ (l : List (List Nat)) (t : CS), (t.map (·.1)).Nodup → (∀ p ∈ t, 1 ≤ p.2) → csum (l.foldl addC t) = csum t + l.length ∧ (∀ p ∈ l.foldl addC t, 1 ≤ p.2) ∧ ∀ x, x ∈ (l.foldl addC t).map (·.1) ↔ x ∈ t.map (·.1) ∨ x ∈ l := by
    intro l
    induction l with
    | nil => intro t _ h; exact ⟨by simp, h, fun x => by simp⟩
    | cons k l ih =>
      intro t nd h
      obtain ⟨a, b, c⟩ := ih (addC t k) (addC_nd nd) (addC_pos h)
      rw [List.foldl_cons]
      refine ⟨by rw [a, csum_add nd, List.length_cons]; omega, b, fun x => ?_⟩
      rw [c x, addC_keys, List.mem_cons]
      exact ⟨fun z => by rcases z with (z | z) | z <;> simp [z], fun z => by rcases z with z | z | z <;> simp [z]⟩
  obtain ⟨a, b, c⟩ := this l [] List.nodup_nil (fun p hp => nomatch hp)
  exact ⟨by unfold tal; rw [a]; simp [csum], b, fun x => by unfold tal; rw [c x]; simp⟩
theorem win_mem {r : List Nat} {w : Nat} {k : List Nat} (h : k ∈ winL r w) (hr : r.all isLet = true) : k.length = w ∧ k.all isLet = true := by
  obtain ⟨i, hi, rfl⟩ := List.mem_map.mp h
  rw [List.mem_range] at hi
  refine ⟨by rw [List.length_take, List.length_drop]; omega, ?_⟩
  rw [List.all_eq_true] at hr ⊢
  exact fun x hx => hr x (List.mem_of_mem_drop (List.mem_of_mem_take hx))
theorem tal_ok {r : List Nat} {w : Nat} (h : rowOk r) (h1 : 1 ≤ w) (h2 : w ≤ 201) : CSok w (tal (winL r w)) := by
  obtain ⟨a, b, c⟩ := tal_all (winL r w)
  refine ⟨tal_nd _, fun p hp => win_mem ((c p.1).mp (List.mem_map.mpr ⟨p, hp, rfl⟩)) h.2.2, b, ?_⟩
  rw [a, win_len]
  have := h.2.1
  omega
def spChkRow : TSpec := fun ds σ Q E => ∃ r, ds = [.str r] ∧ rowOk r ∧ Q .non σ
def spChkWidth : TSpec := fun ds σ Q E => ∃ (r : List Nat) (w : Nat), ds = [.str r, .int (w : Int)] ∧ 1 ≤ w ∧ w ≤ 12 ∧ w ≤ r.length ∧ r.length ≤ 1000000 ∧ Q .non σ
def spOf (C : Addr) : TSpec := fun ds σ Q E => ∃ (r : List Nat) (w : Nat), ds = [.ref C, .str r, .int (w : Int)] ∧ rowOk r ∧ 1 ≤ w ∧ w ≤ 12 ∧ w ≤ r.length ∧ Q (tabT C w (srtC (tal (winL r w)))) σ
section
variable {P : Program} {w : World} {F : PySem.W.Frag} {mg : Str → Option Value} {base : Heap}
set_option maxHeartbeats 200000 in
theorem ok_check_row (L : Dt P w F mg base "is_row" ["value"] 2 spRow) (Fn : DfN F mg "check_row" ["value"] s_check_row) : Dt P w F mg base "check_row" ["value"] 3 spChkRow := by
  refine dt_ok Fn sc_check_row (fun ds σ Q E h => ?_) (fun ds σ Q E Wx h => ?_)
  · obtain ⟨r, rfl, _⟩ := h
    rfl
  · obtain ⟨r, rfl, ok, q⟩ := h
    exact tk_ifF (TB.cast (tb_not (tb_val (v_is_row L (by walk_at "k") (by rfl) (by walk_at "va") rfl (fun s e => by cases e; have := ok.2.1; omega)))) (by rw [isRowV_ok ok]; rfl)) (tk_nil (tk_nil q))
set_option maxHeartbeats 200000 in
theorem ok_check_width (L : Dt P w F mg base "is_integer" ["value", "low", "high"] 1 spInt) (g : GlT F mg "WIDEST" (.int 12)) (b1 : mg "min" = none) (b2 : mg "len" = none) (Fn : DfN F mg "check_width" ["row", "value"] s_check_width) : Dt P w F mg base "check_width" ["row", "value"] 2 spChkWidth := by
  refine dt_ok Fn sc_check_width (fun ds σ Q E h => ?_) (fun ds σ Q E Wx h => ?_)
  · obtain ⟨r, w, rfl, _⟩ := h
    rfl
  · obtain ⟨r, w, rfl, w1, w2, w3, hr, q⟩ := h
    exact tk_ifF (TB.cast (tb_not (tb_val (tv_own (d := .bl true) L (by walk_at "k") (by rfl) (by walk_at "va") (fun q => ⟨(w : Int), 1, some (min 12 (r.length : Int)), rfl, by
      have a1 : (1 : Int) ≤ w := by omega
      have a2 : (w : Int) ≤ min 12 (r.length : Int) := by omega
      simp only [decide_eq_true a1, decide_eq_true a2]
      exact q⟩)))) (by rfl)) (tk_nil (tk_nil q))
set_option maxHeartbeats 400000 in
theorem ok_tab_of {C f : Addr} {fd : FuncData} {qual : Str} (L1 : Dt P w F mg base "check_row" ["value"] 3 spChkRow) (L2 : Dt P w F mg base "check_width" ["row", "value"] 2 spChkWidth) (L3 : Dt P w F mg base "counts_in" ["row", "width"] 2 spCountsIn)
    (M : DtI P w F mg base C ["self", "width", "counts"] 3 (spInit C)) (Fn : Fun F "of" qual s_Table_of f fd) : FnG P w F mg base 5 f fd ["cls", "row", "width"] (spT F (spOf C)) := by
  refine fnT_ok Fn sc_Table_of (fun ds σ Q E h => ?_) (fun ds σ Q E Wx h => ?_)
  · obtain ⟨r, w, rfl, _⟩ := h
    rfl
  · obtain ⟨r, w, rfl, ok, w1, w2, w3, q⟩ := h
    have hr := ok.2.1
    have to := tal_ok ok w1 (by omega : w ≤ 201)
    refine tk_cons (ts_expr (te_own L1 (by walk_at "k") (by rfl) ((by walk_at "va" : TVA _ _ _ _ [.str r]).to ⟨r, rfl, ok, ?_⟩)))
    refine tk_cons (ts_expr (te_own L2 (by walk_at "k") (by rfl) ((by walk_at "va" : TVA _ _ _ _ [.str r, .int (w : Int)]).to ⟨r, w, rfl, w1, w2, w3, by omega, ?_⟩)))
    refine tk_cons (ts_ret (te_frz (te_makeL M (by walk_at "k") (by rfl) (by rfl) ((tva_cons (by walk_at "v" : TV _ _ _ _ (.int (w : Int))) (tva_cons (tv_own (d := .dct (cD (srtC (tal (winL r w))))) L3 (by walk_at "k") (by rfl) (by walk_at "va") (fun q => ⟨r, w, rfl, by omega, by omega, q⟩)) tva_nil)).to fun z hz => ⟨z, w, srtC (tal (winL r w)), rfl, su_same, w1, w2, to.srt, ?_⟩))))
    rw [su_su, srtC_srtC to.nd]
    exact ⟨rfl, z, _, rfl, su_same, by rw [sd_su hz]; exact q⟩
end
end Y

/-! ### the reel of draws -/
namespace Y
open PySem PySem.Spec L2 SX Z
/-- what stands in the reel -/
def reelOk (N : Nat) (xs : List DT) : Prop := ∃ (gs es : List Int) (n s : Int), xs = [.lst (gs.map DT.int), .lst (es.map DT.int), .int n, .int s] ∧ (∀ g ∈ gs, 0 ≤ g) ∧ gs.length ≤ 64 ∧ 1 ≤ es.length ∧ es.length ≤ 64 ∧ (∀ e ∈ es, 0 ≤ e ∧ e < 1000033) ∧ 0 ≤ n ∧ n ≤ N ∧ 0 ≤ s ∧ s < 2 ^ 129
theorem reel_le {N M : Nat} {xs : List DT} (h : reelOk N xs) (l : N ≤ M) : reelOk M xs := by
  obtain ⟨gs, es, n, s, h1, h2, h3, h4, h5, h6, h7, h8, h9⟩ := h
  exact ⟨gs, es, n, s, h1, h2, h3, h4, h5, h6, h7, by omega, h9⟩
def spReel : TSpec := fun ds σ Q E => ∃ ns : List Int, ds = [.seq (ns.map DT.int)] ∧ ns.length ≤ 63 ∧ ∀ p xs, σ p = none → reelOk 0 xs → Q (.ref p) (su σ p (.lst xs))
def spDraw : TSpec := fun ds σ Q E => ∃ p m N xs, ds = [.ref p, .int m] ∧ σ p = some (.lst xs) ∧ reelOk N xs ∧ N < 2 ^ 60 ∧ 1 ≤ m ∧ m < 2 ^ 200 ∧ ∀ d xs', 0 ≤ d → d < m → reelOk (N + 1) xs' → Q (.int d) (su σ p (.lst xs'))
def spWord : TSpec := fun ds σ Q E => ∃ (p : Addr) (lo hi N : Nat) (xs : List DT), ds = [.ref p, .int (lo : Int), .int (hi : Int)] ∧ σ p = some (.lst xs) ∧ reelOk N xs ∧ N < 2 ^ 59 ∧ 1 ≤ lo ∧ lo ≤ hi ∧ hi ≤ 200 ∧
  ∀ (l : List Nat) xs', lo ≤ l.length → l.length ≤ hi → l.all isLet = true → reelOk (N + 1000) xs' → Q (.str l) (su σ p (.lst xs'))
section
variable {P : Program} {w : World} {F : PySem.W.Frag} {mg : Str → Option Value} {base : Heap}
theorem ok_reel (Fn : DfN F mg "_law_reel" ["_law_script"] s_law_reel) : Dt P w F mg base "_law_reel" ["_law_script"] 1 spReel := by
  refine dt_ok Fn sc_law_reel (fun ds σ Q E h => ?_) (fun ds σ Q E Wx h => ?_)
  · obtain ⟨ns, rfl, _⟩ := h
    rfl
  · obtain ⟨ns, rfl, hl, q⟩ := h
    refine tk_setV (i := 1) (by walk_at "sto") (by walk_at "v") ?_
    have cutI : cutT (ns.map DT.int) none (some (61 : Int)) = (ns.take 61).map DT.int := (Y.cut_to (j := 61) (y := 61) rfl).trans List.map_take.symm
    refine tk_cons (ts_for (t := .nm 2) (by walk_at "tgt") ((tvi_lst (TV.castL (by walk_at "v") cutI)).to ?_))
    refine ⟨fun i ρ1 σ2 => σ2 = σ ∧ ∃ (s : Int) (o : Option DT), 0 ≤ s ∧ s < 2 ^ 129 ∧ ρ1 = [some (.seq (ns.map DT.int)), some (.int s), o, none], ⟨rfl, _, none, by decide, by decide, rfl⟩, ?_, ?_⟩
    · rintro i d ρ1 σ2 hd ⟨rfl, s, o, s0, s1, rfl⟩
      rw [List.getElem?_map] at hd
      obtain ⟨z, hz, rfl⟩ := Option.map_eq_some_iff.mp hd
      refine ⟨_, rfl, ?_⟩
      have m1 : CMulW s s := mulW (m := 129) (k := 129) (by omega) (by omega) (by decide)
      refine tk_setV (i := 1) (by walk_at "sto") (by walk_at "v") (tk_nil ⟨rfl, _, some (.int z), Int.emod_nonneg _ (by decide), Int.lt_of_lt_of_le (Int.emod_lt_of_pos _ (by decide)) (by decide), rfl⟩)
    · rintro ρ1 σ2 ⟨rfl, s, o, s0, s1, rfl⟩
      refine tk_setLcV (α := Int) (i := 3) (own := [("_law_cell", 2)]) (t := .nm 2) (by rfl) (by rfl) (by rfl) (by decide +kernel) (by exact Nat.le_of_ble_eq_true rfl) (by walk_at "tgt") (by walk_at "blk") (by decide) (tvi_lst (TV.castL (by walk_at "v") cutI)) (by simp; omega) (fun _ _ => rfl)
        (tt := fun z => decide (10 ^ (18 : Int).toNat ≤ z)) (f := fun z => .int (z - 10 ^ (18 : Int).toNat)) (fun z _ => ⟨by walk_at "t", fun _ => by walk_at "v"⟩) ?_
      refine tk_cons (ts_ret (te_lstC ?_))
      refine ta_v (by walk_at "v") (ta_v (tv_bin (tv_lcM (own := [("_law_cell", 2)]) (t := .nm 2) (by walk_at "tgt") (by walk_at "blk") (by decide) (tvi_lst (TV.castL (by walk_at "v") cutI)) (by simp; omega) (fun _ _ => rfl) (f := fun z : Int => .int (z % 1000033)) (fun z _ => by walk_at "v")) (by walk_at "v") (po_cat lsX_l lsX_l (by simp; omega))) (ta_v (by walk_at "v") (ta_v (by walk_at "v") (ta_nil ⟨by exact Nat.le_of_ble_eq_true rfl, fun p hp => q p _ hp ?_⟩))))
      refine ⟨((ns.take 61).filter fun z => decide (10 ^ (18 : Int).toNat ≤ z)).map fun z => z - 10 ^ (18 : Int).toNat, (ns.take 61).map (fun z => z % 1000033) ++ [67], 0, s, ?_, ?_, ?_, ?_, ?_, ?_, by omega, by omega, s0, s1⟩
      · simp [List.map_map, Function.comp_def]
      · intro g hg
        obtain ⟨z, hz, rfl⟩ := List.mem_map.mp hg
        have := of_decide_eq_true (List.mem_filter.mp hz).2
        omega
      · rw [List.length_map]
        exact Nat.le_trans (List.length_filter_le _ _) (by rw [List.length_take]; omega)
      · simp
      · simp; omega
      · intro e he
        rcases List.mem_append.mp he with h | h
        · obtain ⟨z, _, rfl⟩ := List.mem_map.mp h
          exact ⟨Int.emod_nonneg _ (by decide), Int.emod_lt_of_pos _ (by decide)⟩
        · rw [List.mem_singleton.mp h]; decide
theorem ok_draw (sm : ∃ ob, base.get? sysModules = some ob) (Fn : DfN F mg "_law_draw" ["_law_reel_here", "_law_many"] s_law_draw) (b1 : mg "int" = none) (b2 : mg "len" = none) : Dt P w F mg base "_law_draw" ["_law_reel_here", "_law_many"] 1 spDraw := by
  refine dt_ok Fn sc_law_draw (fun ds σ Q E h => ?_) (fun ds σ Q E Wx h => ?_)
  · obtain ⟨p, m, N, xs, rfl, _⟩ := h
    rfl
  · obtain ⟨p, m, N, _, rfl, hσ, ⟨gs, es, n, s, rfl, h1, h2, h3, h4, h5, h6, h7, h8, h9⟩, hN, m1, m2, q⟩ := h
    have cm : CDivW 0 m := ⟨by omega, Nat.lt_trans ((Nat.log2_lt (by omega)).mpr (show m.natAbs < 2 ^ 200 by omega)) (by decide)⟩
    refine tk_ifG (tb_cmp (by walk_at "v") (by walk_at "v") (po_neNil sm (sh_ints gs)) (by rfl)) (fun hv => ?_) (fun hv => ?_)
    · cases gs with
      | nil => cases hv
      | cons g gs =>
        have g0 := h1 g List.mem_cons_self
        refine tk_setV (i := 2) (by walk_at "sto") (tv_sub (by walk_at "v") (by walk_at "v") (pi_lst (xs := (g :: gs).map DT.int) (i := 0) lsT_l (d := .int g) (Z.at_nat (j := 0) rfl rfl))) ?_
        have cm2 : CDivW g m := cm
        have hb : ∀ b : Bool, 0 ≤ (if b = true then (1 : Int) else 0) ∧ (if b = true then (1 : Int) else 0) ≤ 1 := fun b => by cases b <;> decide
        have e1 : (List.map DT.int (g :: gs)).length = gs.length + 1 := by simp
        have h2 : gs.length + 1 ≤ 64 := h2
        refine tk_cons (ts_setItem ((tv_bin (x := .lst (List.replicate (if decide (m ≤ g) = true then (1 : Int) else 0).toNat [DT.int (g / m)]).flatten) (tv_bin (by walk_at "v") (by walk_at "v") (po_rep lsX_l (by have := hb (decide (m ≤ g)); omega) (by have := hb (decide (m ≤ g)); omega) (by by_cases z : m ≤ g <;> simp [z])))
          (tv_slice (by walk_at "v") (by walk_at "vo") (by walk_at "vo") (pl_lst lsT_l)) (po_cat lsX_l lsX_l (by by_cases z : m ≤ g <;> simp [z, cutT] <;> omega))).to ((by walk_at "v" : TV _ _ _ _ _).to (tv_int.to ⟨p, _, 0, 0, rfl, rfl, hσ, rfl, ?_⟩))))
        refine tk_ret (by walk_at "v") (q _ _ (Int.emod_nonneg _ (by omega)) (Int.emod_lt_of_pos _ (by omega)) ⟨(if m ≤ g then [g / m] else []) ++ gs, es, n, s, ?_, ?_, ?_, h3, h4, h5, h6, by omega, h8, h9⟩)
        · have e2 : cutT (List.map DT.int (g :: gs)) (some 1) none = gs.map DT.int := (Y.cut_from (i := 1) rfl).trans rfl
          rw [e2]
          by_cases z : m ≤ g <;> simp [z]
        · intro x hx
          rcases List.mem_append.mp hx with h | h
          · by_cases z : m ≤ g
            · rw [if_pos z] at h
              rw [List.mem_singleton.mp h]
              exact Int.ediv_nonneg g0 (by omega)
            · rw [if_neg z] at h
              cases h
          · exact h1 x (List.mem_cons_of_mem _ h)
        · by_cases z : m ≤ g <;> simp [z] <;> omega
    · cases gs with
      | cons g gs => cases hv
      | nil =>
        refine tk_cons (ts_setItem ((by walk_at "v" : TV _ _ _ _ (.int (n + 1))).to ((by walk_at "v" : TV _ _ _ _ _).to (tv_int.to ⟨p, _, 2, 2, rfl, rfl, hσ, rfl, ?_⟩))))
        have he : ((n + 1) % (es.length : Int)).toNat < es.length := by
          have a := Int.emod_nonneg (n + 1) (b := (es.length : Int)) (by omega)
          have b := Int.emod_lt_of_pos (n + 1) (b := (es.length : Int)) (by omega)
          omega
        obtain ⟨e, hee⟩ : ∃ e, es[((n + 1) % (es.length : Int)).toNat]? = some e := ⟨_, List.getElem?_eq_getElem he⟩
        have ae : atI (es.map DT.int) ((n + 1) % ((es.map DT.int).length : Int)) = some (.int e) := by
          refine Z.at_nat (j := ((n + 1) % (es.length : Int)).toNat) ?_ ?_
          · rw [List.length_map]
            exact (Int.toNat_of_nonneg (Int.emod_nonneg _ (by omega))).symm
          · rw [List.getElem?_map, hee]
            rfl
        obtain ⟨e0, e1⟩ := h5 e (List.mem_of_getElem? hee)
        have pos : (0 : Int) < ((es.map DT.int).length : Int) := by rw [List.length_map]; omega
        refine tk_setV (i := 3) (by walk_at "sto") (by walk_at "v") ?_
        have c1 : CMulW s s := mulW (m := 129) (k := 129) (by omega) (by omega) (by decide)
        have c2 : CMulW (e + 13) 86028121 := mulW (m := 21) (k := 27) (by omega) (by decide) (by decide)
        have c3 : CMulW (n + 1) 999961 := mulW (m := 61) (k := 20) (by omega) (by decide) (by decide)
        refine tk_setV (i := 4) (by walk_at "sto") (by walk_at "v") ?_
        generalize s * s + (e + 13) * 86028121 + (n + 1) * 999961 = s'
        have t0 := Int.emod_nonneg s' (show (2 : Int) ^ (64 : Int).toNat * 2 ^ (63 : Int).toNat - 1 ≠ 0 by decide)
        have t1 := Int.emod_lt_of_pos s' (show (0 : Int) < (2 : Int) ^ (64 : Int).toNat * 2 ^ (63 : Int).toNat - 1 by decide)
        refine tk_cons (ts_setItem ((by walk_at "v" : TV _ _ _ _ (.int (s' % (2 ^ (64 : Int).toNat * 2 ^ (63 : Int).toNat - 1)))).to ((by walk_at "v" : TV _ _ _ _ _).to (tv_int.to ⟨p, _, 3, 3, rfl, rfl, su_same, rfl, ?_⟩))))
        refine tk_ret (by walk_at "v") ?_
        rw [su_su]
        exact q _ _ (Int.emod_nonneg _ (by omega)) (Int.emod_lt_of_pos _ (by omega)) ⟨[], es, n + 1, _, rfl, (fun _ z => nomatch z), by decide, h3, h4, h5, by omega, by omega, t0, Int.lt_trans t1 (by decide)⟩
end
end Y

/-! ### drawn words -/
namespace Y
open PySem PySem.Spec L2 SX Z
section
variable {c : Ct} {ρ : EnvT} {σ : Sg} {Q : DT → Sg → Prop} {E : TX} {p : Addr} {N : Nat} {xs : List DT}
/-- a draw from the reel -/
theorem te_draw {m : Int} {a : Expr} {es : List Expr} {pos p1 : Pos} (L : DtQ c.hp c.P c.w c.K c.mg c.base "_law_draw" ["_law_reel_here", "_law_many"] 1 spDraw) (hk : 1 ≤ c.k) (hg : GlS c "_law_draw") (ha : TVA c (a :: es) ρ (su σ p (.lst xs)) [.ref p, .int m]) (ok : reelOk N xs) (hN : N < 2 ^ 60) (h1 : 1 ≤ m) (h2 : m < 2 ^ 200)
    (q : ∀ (d : Int) xs', 0 ≤ d → d < m → reelOk (N + 1) xs' → Q (.int d) (su σ p (.lst xs'))) (he : ∀ env, starEach (a :: es) env = (false, eval a env) :: starEach es env := by intro _; rfl) (hpl : ∀ pos env, (backTo pos (starEach es env)).any (·.1) = false := by intro _ _; rfl) :
    TE c (.Call (.Name "_law_draw" p1) (a :: es) [] pos) ρ (su σ p (.lst xs)) Q E :=
  te_own L hk hg (ha.to ⟨p, m, N, xs, rfl, su_same, ok, hN, h1, h2, fun d xs' d0 d1 ok' => by rw [su_su]; exact q d xs' d0 d1 ok'⟩) (by decide) he hpl
end
theorem joinL_nil : ∀ ps : List (List Nat), TL.joinL [] ps = ps.flatten
  | [] => rfl
  | [p] => by simp [TL.joinL]
  | p :: q :: r => by
    rw [TL.joinL, joinL_nil (q :: r)]
    simp
theorem join_ones (l : List Nat) : TL.joinL (sOf "") (l.map fun k => [k]) = l := by
  rw [show sOf "" = [] from rfl, joinL_nil]
  induction l with
  | nil => rfl
  | cons a l ih => rw [List.map_cons, List.flatten_cons, ih]; rfl
/-- the text of drawn signs -/
theorem pm_ones {c : Ct} {σ : Sg} (l : List Nat) (h : l.length ≤ 1000000) : POM c "str.join" (.str (sOf "")) [.lst (l.map fun k => DT.str [k])] σ (.str l) := by
  have := pm_join (c := c) (σ := σ) (a := sOf "") (parts := l.map fun k => [k]) (x := .lst (l.map fun k => DT.str [k])) (by rw [List.map_map]; exact lsT_l) (by
    rw [show sOf "" = [] from rfl, List.map_map]
    have : ∀ l : List Nat, (l.map ((fun x : List Nat => x.length) ∘ fun k => [k])).sum = l.length := fun l => by
      induction l with
      | nil => rfl
      | cons a l ih => rw [List.map_cons, List.sum_cons, ih, List.length_cons]; simp only [Function.comp, List.length_singleton]; omega
    rw [this]
    simp
    omega)
  rwa [join_ones] at this
theorem repl_len (n : Nat) (l : List Nat) : (List.replicate n l).flatten.length = n * l.length := by simp
theorem repl_all (n : Nat) (l : List Nat) (f : Nat → Bool) (h : l.all f = true) : (List.replicate n l).flatten.all f = true := by
  rw [List.all_eq_true] at h ⊢
  intro k hk
  obtain ⟨z, hz, hk⟩ := List.mem_flatten.mp hk
  rw [(List.mem_replicate.mp hz).2] at hk
  exact h k hk
theorem take_rep {a : List Nat} {n : Nat} (h : 1 ≤ a.length) : ((List.replicate n a).flatten.take n).length = n := by
  rw [List.length_take, List.length_flatten]
  simp only [List.map_replicate, List.sum_replicate_nat]
  have : n ≤ n * a.length := Nat.le_mul_of_pos_right n h
  omega
section
variable {P : Program} {w : World} {F : PySem.W.Frag} {mg : Str → Option Value} {base : Heap}
theorem ok_word (L : Dt P w F mg base "_law_draw" ["_law_reel_here", "_law_many"] 1 spDraw) (Fn : DfN F mg "_law_word" ["_law_reel_here", "_law_low", "_law_high"] s_law_word) (b1 : mg "range" = none) (b2 : mg "len" = none) : Dt P w F mg base "_law_word" ["_law_reel_here", "_law_low", "_law_high"] 2 spWord := by
  refine dt_ok Fn sc_law_word (fun ds σ Q E h => ?_) (fun ds σ Q E Wx h => ?_)
  · obtain ⟨p, lo, hi, N, xs, rfl, _⟩ := h
    rfl
  · obtain ⟨p, lo, hi, N, xs, rfl, hσ, ok, hN, l1, l2, l3, q⟩ := h
    rw [← su_self hσ]
    have q : ∀ (l : List Nat) xs', lo ≤ l.length → l.length ≤ hi → l.all isLet = true → reelOk (N + 1000) xs' → Q (.str l) (su σ p (.lst xs')) := q
    refine tk_cons (ts_par (i := 3) (j := 4) (by rfl) (by rfl) (by decide) (by rfl) (by rfl) (ta_cons (te_bin (te_v (by walk_at "v") (te_draw L (by walk_at "k") (by rfl) (by walk_at "va") ok (by omega) (by omega) (by omega) fun d xs1 d0 d1 ok1 => ⟨_, po_addI, ?_⟩)))) (fun env hb hx hy => sw_two hb hx hy rfl rfl rfl rfl rfl))
    refine ta_cons (te_draw L (by walk_at "k") (by rfl) (by walk_at "va") ok1 (by omega) (by omega) (by omega) fun way xs2 w0 w1 ok2 => ta_nil ⟨_, _, rfl, ?_⟩)
    obtain ⟨n, hn, n1, n2⟩ : ∃ n : Nat, (lo : Int) + d = n ∧ lo ≤ n ∧ n ≤ hi := ⟨((lo : Int) + d).toNat, by omega, by omega, by omega⟩
    rw [hn]
    obtain ⟨pl, hpl, p1, p2, p3, p4⟩ : ∃ pl, atI [DT.str (sOf "ab"), DT.str (sOf "abc"), DT.str (sOf "xyzw"), DT.str (sOf "abcdefghijklmnopqrstuvwxyz"), DT.str (sOf "ab"), DT.str (sOf "z")] way = some (.str pl) ∧ pl.all isLet = true ∧ 1 ≤ pl.length ∧ pl.length ≤ 26 ∧ (way = 4 → 2 ≤ pl.length) := by
      have : way = 0 ∨ way = 1 ∨ way = 2 ∨ way = 3 ∨ way = 4 ∨ way = 5 := by omega
      rcases this with rfl | rfl | rfl | rfl | rfl | rfl
      · exact ⟨_, rfl, by decide +kernel, by decide +kernel, by decide +kernel, by decide⟩
      · exact ⟨_, rfl, by decide +kernel, by decide +kernel, by decide +kernel, by decide⟩
      · exact ⟨_, rfl, by decide +kernel, by decide +kernel, by decide +kernel, by decide⟩
      · exact ⟨_, rfl, by decide +kernel, by decide +kernel, by decide +kernel, by decide⟩
      · exact ⟨_, rfl, by decide +kernel, by decide +kernel, by decide +kernel, fun _ => by decide +kernel⟩
      · exact ⟨_, rfl, by decide +kernel, by decide +kernel, by decide +kernel, by decide⟩
    refine tk_setV (i := 5) (by walk_at "sto") (by walk_at "v") ?_
    have at_pl : ∀ d : Int, 0 ≤ d → d < pl.length → ∃ k, atI pl d = some k ∧ isLet k = true := fun d d0 d1 => by
      have hlt : d.toNat < pl.length := by omega
      refine ⟨pl[d.toNat], Z.at_nat (j := d.toNat) (by omega) (List.getElem?_eq_getElem hlt), ?_⟩
      rw [List.all_eq_true] at p1
      exact p1 _ (List.getElem_mem hlt)
    refine tk_ifG (by walk_at "t") (fun hw => ?_) (fun hw => ?_)
    · have p4 := p4 (of_decide_eq_true hw)
      refine tk_set (i := 6) (by walk_at "sto") (te_meth PySem.F.plainAttrs_str PySem.F.slot_str_join rfl (te_v (by walk_at "v") ⟨ty_str, ta_cons (te_lcR (α := Nat) (f := fun k => .str [k]) (Pa := fun k => isLet k = true) (R := fun i σ2 => ∃ xs', σ2 = su σ p (.lst xs') ∧ reelOk (N + 3 + i) xs') (own := [("_law_turn", 9)]) (t := .nm 9) (by walk_at "tgt") (by walk_at "blk") (by decide)
        (ti_range1 (by rfl) (by walk_at "as") (te_bin (te_v (by walk_at "v") (te_draw L (by walk_at "k") (by rfl) (by walk_at "va") ok2 (by omega) (by decide) (by decide) fun d3 xs3 e0 e1 ok3 => ⟨_, po_addI, _, rfl, by omega, by simp; omega, ⟨xs3, rfl, ok3⟩, ?_, ?_⟩)))))⟩))
      · rintro i d4 σ2 hd ⟨xs', rfl, ok4⟩
        rw [List.getElem?_map] at hd
        obtain ⟨j, hj, rfl⟩ := Option.map_eq_some_iff.mp hd
        have hi : i < (1 + d3).toNat := by have := (List.getElem?_eq_some_iff.mp hj).1; simpa using this
        refine ⟨_, rfl, te_sub (te_v (by walk_at "v") (te_draw L (by walk_at "k") (by rfl) (by walk_at "va") ok4 (by omega) (by decide) (by decide) fun d5 xs5 f0 f1 ok5 => ?_))⟩
        obtain ⟨k, hk, lk⟩ := at_pl d5 f0 (by omega)
        exact ⟨_, pi_str (by omega) hk, k, rfl, lk, xs5, rfl, ok5⟩
      · rintro l σ2 hl hp ⟨xs', rfl, ok4⟩
        have hl : l.length = (1 + d3).toNat := by simpa using hl
        refine ta_nil ((pm_ones l (by omega)).to ?_)
        have ok5 := reel_le ok4 (M := N + 1000) (by simp; omega)
        have cc : (List.replicate n l).flatten.length = n * l.length := by simp
        have c1 : l.length * n ≤ 5 * 200 := Nat.mul_le_mul (by omega) (by omega)
        have c2 : n * l.length = l.length * n := Nat.mul_comm _ _
        refine tk_ret (TV.castS (tv_slice (tv_bin (by walk_at "v") (by walk_at "v") (po_mulS (by omega) (by omega) (by rw [Int.toNat_natCast]; omega))) (by walk_at "vo") (by walk_at "vo") (pl_str (by rw [Int.toNat_natCast]; omega))) (Z.cut_to (j := n) rfl)) ?_
        rw [Int.toNat_natCast]
        have tl := take_rep (a := l) (n := n) (by omega)
        refine q _ _ (by omega) (by omega) ?_ ok5
        rw [List.all_eq_true]
        intro k hk
        obtain ⟨y, hy, hk⟩ := List.mem_flatten.mp (List.mem_of_mem_take hk)
        rw [(List.mem_replicate.mp hy).2] at hk
        exact hp k hk
    · refine tk_set (i := 7) (by walk_at "sto") (te_meth PySem.F.plainAttrs_str PySem.F.slot_str_join rfl (te_v (by walk_at "v") ⟨ty_str, ta_cons (te_lcR (α := Nat) (f := fun k => .str [k]) (Pa := fun k => isLet k = true) (R := fun i σ2 => ∃ xs', σ2 = su σ p (.lst xs') ∧ reelOk (N + 2 + i) xs') (own := [("_law_turn", 9)]) (t := .nm 9) (by walk_at "tgt") (by walk_at "blk") (by decide)
        (ti_range1 (by rfl) (by walk_at "as") (te_v (by walk_at "v") ⟨_, rfl, by omega, by simp; omega, ⟨xs2, rfl, ok2⟩, ?_, ?_⟩)))⟩))
      · rintro i d4 σ2 hd ⟨xs', rfl, ok4⟩
        rw [List.getElem?_map] at hd
        obtain ⟨j, hj, rfl⟩ := Option.map_eq_some_iff.mp hd
        have hi : i < n := by have := (List.getElem?_eq_some_iff.mp hj).1; simpa using this
        refine ⟨_, rfl, te_sub (te_v (by walk_at "v") (te_draw L (by walk_at "k") (by rfl) (by walk_at "va") ok4 (by omega) (by omega) (by omega) fun d5 xs5 f0 f1 ok5 => ?_))⟩
        obtain ⟨k, hk, lk⟩ := at_pl d5 f0 (by omega)
        exact ⟨_, pi_str (by omega) hk, k, rfl, lk, xs5, rfl, ok5⟩
      · rintro l σ2 hl hp ⟨xs', rfl, ok4⟩
        have hl : l.length = n := by simpa using hl
        refine ta_nil ((pm_ones l (by omega)).to ?_)
        have ok5 := reel_le ok4 (M := N + 500) (by simp; omega)
        have hla : l.all isLet = true := by rw [List.all_eq_true]; exact hp
        refine tk_set (i := 8) (by walk_at "sto") (te_draw L (by walk_at "k") (by rfl) (by walk_at "va") ok5 (by omega) (by omega) (by omega) fun at1 xs6 a0 a1 ok6 => ?_)
        obtain ⟨j, rfl⟩ : ∃ j : Nat, at1 = j := ⟨at1.toNat, by omega⟩
        have hj : j < l.length := by omega
        refine tk_ret (tv_if (x := .str (l.take j ++ sOf "a" ++ l.drop (j + 1))) (y := .str l) (by walk_at "t") (fun _ => TV.castS (tv_bin (tv_bin (TV.castS (by walk_at "v") (Z.cut_to (j := j) rfl)) (by walk_at "v") (po_addS (a := l.take j) (b := sOf "a") (by rw [List.length_take, show (sOf "a").length = 1 by decide +kernel]; omega))) (TV.castS (by walk_at "v") (Z.cut_from (i := j + 1) (by omega))) (po_addS (a := l.take j ++ sOf "a") (b := l.drop (j + 1)) (by rw [List.length_append, List.length_take, List.length_drop, show (sOf "a").length = 1 by decide +kernel]; omega))) rfl) (fun _ => by walk_at "v")) ?_
        split
        · refine q _ _ ?_ ?_ ?_ (reel_le ok6 (by omega))
          · rw [List.length_append, List.length_append, List.length_take, List.length_drop, show (sOf "a").length = 1 by decide +kernel]; omega
          · rw [List.length_append, List.length_append, List.length_take, List.length_drop, show (sOf "a").length = 1 by decide +kernel]; omega
          · rw [List.all_append, List.all_append, show (sOf "a").all isLet = true by decide +kernel, Bool.and_true]
            rw [List.all_eq_true] at hla
            rw [Bool.and_eq_true, List.all_eq_true, List.all_eq_true]
            exact ⟨fun k hk => hla k (List.mem_of_mem_take hk), fun k hk => hla k (List.mem_of_mem_drop hk)⟩
        · exact q _ _ (by omega) (by omega) hla (reel_le ok6 (by omega))
end
end Y

/-! ### the laws' own words about tables -/
namespace Y
open PySem PySem.Spec L2 SX Z
section
variable {P : Program} {w : World} {F : PySem.W.Frag} {mg : Str → Option Value} {base : Heap}
def spDict : TSpec := fun ds σ Q E => ∃ (p : Addr) (w : Nat) (M : Int) (N : Nat) (xs : List DT), ds = [.ref p, .int (w : Int), .int M] ∧ 1 ≤ w ∧ w ≤ 12 ∧ 0 ≤ M ∧ M + w ≤ 201 ∧ σ p = some (.lst xs) ∧ reelOk N xs ∧ N < 2 ^ 58 ∧
  ∀ (t : CS) xs', CSok w t → csum t ≤ M → reelOk (N + 250000) xs' → Q (.dct (cD t)) (su σ p (.lst xs'))
end
end Y

/-! ### a drawn tally -/
namespace Y
open PySem PySem.Spec L2 SX Z
def addM (t : CS) (k : List Nat) (m : Int) : CS := if (t.any fun p => decide (p.1 = k)) = true then t.map (fun p => if p.1 = k then (p.1, (cget t k).getD 0 + m) else p) else t ++ [(k, m)]
theorem cD_addM (t : CS) (k : List Nat) (m : Int) : putT (cD t) (.inr k) (.int ((cget t k).getD 0 + m)) = cD (addM t k m) := by
  unfold putT addM
  rw [cD_any]
  cases h : t.any fun p => decide (p.1 = k) with
  | true =>
    simp only [if_true]
    unfold cD iD cT
    simp only [List.map_map]
    refine List.map_congr_left fun p _ => ?_
    by_cases e : p.1 = k
    · simp [e]
    · simp [e]
  | false =>
    rw [cget_none h]
    simp [cD, iD, cT]
theorem cget_pos {t : CS} {k : List Nat} (h : ∀ p ∈ t, 1 ≤ p.2) : 0 ≤ (cget t k).getD 0 := by
  induction t with
  | nil => exact Int.le_refl _
  | cons p t ih =>
    rw [cget_cons]
    have h1 := h p List.mem_cons_self
    have h2 := ih fun q hq => h q (List.mem_cons_of_mem _ hq)
    split
    · show 0 ≤ p.2
      omega
    · exact h2
theorem CSok.add {w : Nat} {t : CS} {k : List Nat} {m : Int} (h : CSok w t) (hm : 1 ≤ m) (k1 : k.length = w) (k2 : k.all isLet = true) (hs : csum t + m + w ≤ 201) : CSok w (addM t k m) := by
  have cp := cget_pos (k := k) h.pos
  unfold addM
  cases e : t.any fun p => decide (p.1 = k) with
  | true =>
    rw [if_pos rfl]
    have e2 : ((t.map fun p => if p.1 = k then (p.1, (cget t k).getD 0 + m) else p).map (·.1)) = t.map (·.1) := by
      rw [List.map_map]
      refine List.map_congr_left fun p _ => ?_
      show (if p.1 = k then (p.1, (cget t k).getD 0 + m) else p).1 = p.1
      split <;> rfl
    refine ⟨by rw [e2]; exact h.nd, fun p hp => ?_, fun p hp => ?_, ?_⟩
    · obtain ⟨q, hq, rfl⟩ := List.mem_map.mp hp
      split
      · exact h.key q hq
      · exact h.key q hq
    · obtain ⟨q, hq, rfl⟩ := List.mem_map.mp hp
      split
      · show 1 ≤ (cget t k).getD 0 + m
        omega
      · exact h.pos q hq
    · rw [rep_sum k _ t h.nd e]
      omega
  | false =>
    rw [if_neg (by decide)]
    refine ⟨?_, fun p hp => ?_, fun p hp => ?_, ?_⟩
    · rw [List.map_append, List.nodup_append]
      refine ⟨h.nd, by simp, fun a ha b hb => ?_⟩
      obtain ⟨p, hp, rfl⟩ := List.mem_map.mp ha
      have := List.any_eq_false.mp e p hp
      simp only [List.map_cons, List.map_nil, List.mem_singleton] at hb
      rw [hb]
      simpa using this
    · rcases List.mem_append.mp hp with hp | hp
      · exact h.key p hp
      · rw [List.mem_singleton.mp hp]; exact ⟨k1, k2⟩
    · rcases List.mem_append.mp hp with hp | hp
      · exact h.pos p hp
      · rw [List.mem_singleton.mp hp]; exact hm
    · have : csum (t ++ [(k, m)]) = csum t + m := by simp [csum]
      rw [this]
      exact hs
theorem csum_addM {t : CS} {k : List Nat} {m : Int} (h : (t.map (·.1)).Nodup) : csum (addM t k m) = csum t + m := by
  unfold addM
  cases e : t.any fun p => decide (p.1 = k) with
  | true =>
    rw [if_pos rfl, rep_sum k _ t h e]
    omega
  | false => simp [csum]
section
variable {P : Program} {w : World} {F : PySem.W.Frag} {mg : Str → Option Value} {base : Heap}
set_option maxHeartbeats 600000 in
theorem ok_dict (L0 : Dt P w F mg base "_law_draw" ["_law_reel_here", "_law_many"] 1 spDraw) (L2 : Dt P w F mg base "_law_word" ["_law_reel_here", "_law_low", "_law_high"] 2 spWord) (b1 : mg "min" = none)
    (Fn : DfN F mg "_law_dict" ["_law_reel_here", "_law_wide", "_law_most"] s_law_dict) : Dt P w F mg base "_law_dict" ["_law_reel_here", "_law_wide", "_law_most"] 3 spDict := by
  refine dt_ok Fn sc_law_dict (fun ds σ Q E h => ?_) (fun ds σ Q E Wx h => ?_)
  · obtain ⟨p, w, M, N, xs, rfl, _⟩ := h
    rfl
  · obtain ⟨p, w, M, N, xs, rfl, w1, w2, M0, M1, hσ, ok, hN, q⟩ := h
    rw [← su_self hσ]
    have q : ∀ (t : CS) xs', CSok w t → csum t ≤ M → reelOk (N + 250000) xs' → Q (.dct (cD t)) (su σ p (.lst xs')) := q
    refine tk_cons (ts_par (i := 3) (j := 4) (by rfl) (by rfl) (by decide) (by rfl) (by rfl) (ta_cons (te_dict0 fun z hz => ?_)) (fun env hb hx hy => sw_two hb hx hy rfl rfl rfl rfl rfl))
    have zp : z ≠ p := fun e => by rw [e, su_same] at hz; cases hz
    have hzn : σ z = none := by rw [su_ne zp] at hz; exact hz
    rw [su_comm zp.symm]
    refine ta_cons (te_draw L0 (by walk_at "k") (by rfl) (by walk_at "va") ok (by omega) (by omega) (by omega) fun left xs1 l0 l1 ok1 => ta_nil ⟨_, _, rfl, ?_⟩)
    refine tk_cons (ts_while (fun m ρ1 σ2 => ∃ (t : CS) (xs : List DT) (lf : Int) (a5 a6 : Option DT), σ2 = su (su σ z (.dct (cD t))) p (.lst xs) ∧ CSok w t ∧ 0 ≤ lf ∧ csum t + lf ≤ M ∧ m = lf.toNat ∧ reelOk (N + 1 + (201 - lf.toNat) * 1002) xs ∧ ρ1 = [some (.ref p), some (.int (w : Int)), some (.int M), some (.ref z), some (.int lf), a5, a6])
      (m0 := left.toNat) ⟨[], xs1, left, none, none, rfl, ⟨List.nodup_nil, (fun _ h => nomatch h), (fun _ h => nomatch h), by simp [csum]; omega⟩, l0, by simp [csum]; omega, rfl, reel_le ok1 (by omega), rfl⟩ ?_)
    rintro m ρ1 σ2 ⟨t, xs2, lf, a5, a6, rfl, ct, f0, f1, rfl, ok2, rfl⟩
    refine (by walk_at "t" : TB _ _ _ _ _).to ⟨fun hv => ?_, fun hv => ?_⟩
    · have lf1 : 1 ≤ lf := by have := of_decide_eq_true hv; omega
      have lf2 : lf ≤ 200 := by
        have := ct.len
        omega
      refine tk_set (i := 5) (by walk_at "sto") (te_own L2 (by walk_at "k") (by rfl) ((by walk_at "va" : TVA _ _ _ _ [.ref p, .int (w : Int), .int (w : Int)]).to ⟨p, w, w, N + 1 + (201 - lf.toNat) * 1002, xs2, rfl, su_same, ok2, by omega, w1, Nat.le_refl _, by omega, fun k xs3 k1 k2 k3 ok3 => ?_⟩))
      rw [su_su]
      have kw : k.length = w := by omega
      refine tk_set (i := 6) (by walk_at "sto") (te_bin (te_v (by walk_at "v") (te_own L0 (by walk_at "k") (by rfl) (ta_v (by walk_at "v") (ta_cons (te_sub (te_v (tv_lst (by walk_at "va")) (te_draw L0 (by walk_at "k") (by rfl) (by walk_at "va") ok3 (by omega) (by omega) (by omega) fun dw xs4 d0 d1 ok4 => ?_))) )))))
      obtain ⟨mx, hmx, m1, m2⟩ : ∃ mx : Int, atI [DT.int 1, DT.int 3, DT.int lf] dw = some (.int mx) ∧ 1 ≤ mx ∧ mx ≤ 201 := by
        have : dw = 0 ∨ dw = 1 ∨ dw = 2 := by omega
        rcases this with rfl | rfl | rfl
        · exact ⟨1, rfl, by omega, by omega⟩
        · exact ⟨3, rfl, by omega, by omega⟩
        · exact ⟨lf, rfl, by omega, by omega⟩
      refine ⟨.int mx, pi_lst lsT_l hmx, ta_nil ⟨p, mx, _, xs4, rfl, su_same, ok4, by omega, m1, by omega, fun mn xs5 n0 n1 ok5 => ?_⟩⟩
      rw [su_su]
      refine ⟨_, po_addI, ?_⟩
      refine tk_setV (i := 6) (by walk_at "sto") (by walk_at "v") ?_
      have hz : (su (su σ z (.dct (cD t))) p (.lst xs5)) z = some (.dct (cD t)) := by rw [su_ne zp, su_same]
      have hn : (cD t).length < 16777216 := by
        have := ct.small
        have e : (cD t).length = t.length := by simp [cD, iD, cT]
        omega
      have eg : (dvl (cD t) (.inr k)).getD (.int 0) = .int ((cget t k).getD 0) := by
        rw [cD_get]
        cases cget t k <;> rfl
      refine tk_cons (ts_setItemD ((tv_bin (TV.cast (tv_meth PySem.F.plainAttrs_dict PySem.F.slot_dict_get PySem.F.type_dict_get (by walk_at "v") (ty_dct (diT_c hz)) (by walk_at "va") (pm_get2 (k := .inr k) (d := .int 0) (diT_c hz))) eg) (by walk_at "v") po_addI).to ((by walk_at "v" : TV _ _ _ _ (.ref z)).to ((by walk_at "v" : TV _ _ _ _ (.str k)).to ⟨z, _, .inr k, rfl, rfl, hz, hn, ?_⟩))))
      rw [su_comm zp.symm, su_su, cD_addM]
      have mi1 : 1 ≤ min (1 + mn) lf := by omega
      refine tk_setV (i := 4) (by walk_at "sto") (by walk_at "v") (tk_nil ⟨(lf - min (1 + mn) lf).toNat, by omega, _, xs5, lf - min (1 + mn) lf, _, _, rfl, ct.add mi1 kw k3 (by omega), by omega, by rw [csum_addM ct.nd]; omega, rfl, reel_le ok5 (by omega), rfl⟩)
    · have lf0 : lf = 0 := by have := of_decide_eq_false hv; omega
      subst lf0
      have hz : (su (su σ z (.dct (cD t))) p (.lst xs2)) z = some (.dct (cD t)) := by rw [su_ne zp, su_same]
      refine tk_cons (ts_ret (te_frz ((by walk_at "v" : TV _ _ _ _ (.ref z)).to ⟨z, _, rfl, hz, ?_⟩)))
      rw [su_comm zp, sd_su (by rw [su_ne zp]; exact hzn)]
      exact q t xs2 ct (by omega) (reel_le ok2 (by omega))
end
end Y

/-! ### exceptions: made, asked, read -/
namespace Y
open PySem PySem.Spec L2 SX Z
structure X1 (F : PySem.W.Frag) (mg : Str → Option Value) (x : Str) (C : Addr) : Prop where
  m : mg x = some (.ref C)
  q : PySem.W.excIn F C veB "ValueError.__new__" = true
  kp : PySem.W.keepIn F (.ref C) = true
structure X2 (P : Program) (w : World) (F : PySem.W.Frag) (mg : Str → Option Value) (base : Heap) (x : Str) (C : Addr) (f : Str) (k : Nat) : Prop where
  m : mg x = some (.ref C)
  i : ExcI P w F mg base C f k
section
variable {c : Ct} {ρ : EnvT} {σ : Sg} {e : Expr} {pos p : Pos} {d x : DT} {C : Addr} {n f : Str} {k : Nat} {fs : List (Str × DT)}
theorem gl_cls {F : PySem.W.Frag} {mg : Str → Option Value} {x : Str} (h : mg x = some (.ref C)) : GlT F mg x (.ref C) := ⟨_, .ref C, h, rfl, fun _ => .ref C⟩
end
/-- the classes told apart: one sum -/
def famB (F : PySem.W.Frag) (cs : List Addr) (we : Addr) : Bool := decide (we :: cs).Nodup && (we :: cs).all fun C => PySem.W.excB F C && (PySem.W.kitOne F (.ref C) (.ref we) == some true && (PySem.W.kitOne F (.ref C) (.type "ValueError") == some true && cs.all fun D => PySem.W.kitOne F (.ref C) (.ref D) == some (C == D)))
structure Fam (F : PySem.W.Frag) (cs : List Addr) (we : Addr) : Prop where
  nd : (we :: cs).Nodup
  ex : ∀ C ∈ we :: cs, PySem.W.ExcA F C
  w : ∀ C ∈ we :: cs, PySem.W.kitOne F (.ref C) (.ref we) = some true
  v : ∀ C ∈ we :: cs, PySem.W.kitOne F (.ref C) (.type "ValueError") = some true
  o : ∀ C ∈ we :: cs, ∀ D ∈ cs, PySem.W.kitOne F (.ref C) (.ref D) = some (C == D)
theorem famB_ok {F : PySem.W.Frag} {cs : List Addr} {we : Addr} (h : famB F cs we = true) : Fam F cs we := by
  unfold famB at h
  rw [Bool.and_eq_true, List.all_eq_true] at h
  obtain ⟨h1, h2⟩ := h
  have h3 : ∀ C ∈ we :: cs, _ := fun C hC => (by simpa only [Bool.and_eq_true, beq_iff_eq, List.all_eq_true] using h2 C hC : PySem.W.excB F C = true ∧ PySem.W.kitOne F (.ref C) (.ref we) = some true ∧ PySem.W.kitOne F (.ref C) (.type "ValueError") = some true ∧ ∀ D ∈ cs, PySem.W.kitOne F (.ref C) (.ref D) = some (C == D))
  exact ⟨of_decide_eq_true h1, fun C hC => PySem.W.excB_ok (h3 C hC).1, fun C hC => (h3 C hC).2.1, fun C hC => (h3 C hC).2.2.1, fun C hC => (h3 C hC).2.2.2⟩
def labels : List (List Nat) := [sOf "row", sOf "width", sOf "counts", sOf "table", sOf "window", sOf "move", sOf "number", sOf "command", sOf "different", sOf "undo", sOf "missing", sOf "none", sOf "large", sOf "text"]
def hits (cs : List Addr) (C : Addr) : List (List Nat × Addr) := (labels.zip cs).filter fun p => C == p.2
def kindOf (cs : List Addr) (C : Addr) : List Nat := match hits cs C with
  | [p] => p.1
  | _ => sOf "odd"
theorem hits_zip (C : Addr) : ∀ (ls : List (List Nat)) (cs : List Addr) (i : Nat) (l : List Nat), cs.Nodup → ls[i]? = some l → cs[i]? = some C → (ls.zip cs).filter (fun p => C == p.2) = [(l, C)]
  | [], cs, i, l, _, h, _ => by simp at h
  | _, [], i, l, _, _, h => by simp at h
  | m :: ls, D :: cs, 0, l, hn, h1, h2 => by
    simp only [List.getElem?_cons_zero, Option.some.injEq] at h1 h2
    subst h1 h2
    rw [List.zip_cons_cons, List.filter_cons, if_pos (by simp)]
    congr 1
    rw [List.filter_eq_nil_iff]
    intro p hp
    have := (List.nodup_cons.mp hn).1
    have q := (List.of_mem_zip (a := p.1) (b := p.2) hp).2
    simp only [beq_iff_eq]
    intro e
    exact this (e ▸ q)
  | m :: ls, D :: cs, i + 1, l, hn, h1, h2 => by
    simp only [List.getElem?_cons_succ] at h1 h2
    have hn' := List.nodup_cons.mp hn
    have ne : C ≠ D := fun e => hn'.1 (e ▸ List.mem_of_getElem? h2)
    rw [List.zip_cons_cons, List.filter_cons, if_neg (by simpa using ne)]
    exact hits_zip C ls cs i l hn'.2 h1 h2
theorem kind_at {cs : List Addr} {C : Addr} {i : Nat} {l : List Nat} (hn : cs.Nodup) (h1 : labels[i]? = some l) (h2 : cs[i]? = some C) : kindOf cs C = l := by
  unfold kindOf hits
  rw [hits_zip C labels cs i l hn h1 h2]
def spKindH (a : Addr) (oe : Obj) (cs : List Addr) (we : Addr) : TSpec := fun ds σ Q E => ∃ C d fs, ds = [.hot a d fs] ∧ HotE (a, oe) C d ∧ C ∈ we :: cs ∧ Q (.str (kindOf cs C)) σ
theorem bt_VE : bootBuiltins "ValueError" = some (.type "ValueError") := PyProof.Rows.Boot.«ValueError»
local macro_rules | `(tactic| walk_at "bt") => `(tactic| with_reducible exact bt_VE)
local macro_rules | `(tactic| walk_at "of") => `(tactic| ((with_reducible show POF _ (.builtin "isinstance") [.hot _ _ _, _] _ _); first | exact pf_isH (by rfl) (by assumption) (by assumption) (.inl ⟨rfl, rfl⟩) (by assumption) | exact pf_isH (D := 0) (by rfl) (by assumption) (by assumption) (.inr ⟨_, rfl, rfl⟩) (by assumption)))
section
variable {P : Program} {w : World} {F : PySem.W.Frag} {mg : Str → Option Value} {base : Heap} {c0 c1 c2 c3 c4 c5 c6 c7 c8 c9 c10 c11 c12 c13 we : Addr}
set_option maxHeartbeats 400000 in
theorem ok_kindH {a : Addr} {oe : Obj} (fam : Fam F [c0, c1, c2, c3, c4, c5, c6, c7, c8, c9, c10, c11, c12, c13] we) (g0 : GlT F mg "InvalidRow" (.ref c0)) (g1 : GlT F mg "InvalidWidth" (.ref c1)) (g2 : GlT F mg "InvalidCounts" (.ref c2)) (g3 : GlT F mg "InvalidTable" (.ref c3)) (g4 : GlT F mg "InvalidWindow" (.ref c4)) (g5 : GlT F mg "InvalidMove" (.ref c5)) (g6 : GlT F mg "InvalidNumber" (.ref c6)) (g7 : GlT F mg "InvalidCommand" (.ref c7)) (g8 : GlT F mg "Different" (.ref c8)) (g9 : GlT F mg "NothingToUndo" (.ref c9)) (g10 : GlT F mg "Missing" (.ref c10)) (g11 : GlT F mg "NoRow" (.ref c11)) (g12 : GlT F mg "TooLarge" (.ref c12)) (g13 : GlT F mg "InvalidText" (.ref c13)) (Fn : DfN F mg "_law_kind" ["_law_e"] s_law_kind) (b1 : mg "isinstance" = none) (b2 : mg "len" = none) (b3 : mg "ValueError" = none) : DtQ (some (a, oe)) P w F mg base "_law_kind" ["_law_e"] 1 (spKindH a oe [c0, c1, c2, c3, c4, c5, c6, c7, c8, c9, c10, c11, c12, c13] we) := by
  refine dtQ_ok Fn sc_law_kind (fun ds σ Q E h => ?_) (fun ds σ Q E Wx h => ?_)
  · obtain ⟨C, d, fs, rfl, _⟩ := h
    rfl
  · obtain ⟨C, d, fs, rfl, he, hC, q⟩ := h
    have Z := (fam.ex C hC).toExcC
    have ve := fam.v C hC
    have o0 := fam.o C hC c0 (by simp)
    have o1 := fam.o C hC c1 (by simp)
    have o2 := fam.o C hC c2 (by simp)
    have o3 := fam.o C hC c3 (by simp)
    have o4 := fam.o C hC c4 (by simp)
    have o5 := fam.o C hC c5 (by simp)
    have o6 := fam.o C hC c6 (by simp)
    have o7 := fam.o C hC c7 (by simp)
    have o8 := fam.o C hC c8 (by simp)
    have o9 := fam.o C hC c9 (by simp)
    have o10 := fam.o C hC c10 (by simp)
    have o11 := fam.o C hC c11 (by simp)
    have o12 := fam.o C hC c12 (by simp)
    have o13 := fam.o C hC c13 (by simp)
    refine tk_setV (i := 1) (by walk_at "sto") (by walk_at "v") ?_
    refine tk_setV (i := 1) (by walk_at "sto") (by walk_at "v") ?_
    refine tk_setV (i := 1) (by walk_at "sto") (by walk_at "v") ?_
    refine tk_setV (i := 1) (by walk_at "sto") (by walk_at "v") ?_
    refine tk_setV (i := 1) (by walk_at "sto") (by walk_at "v") ?_
    refine tk_setV (i := 1) (by walk_at "sto") (by walk_at "v") ?_
    refine tk_setV (i := 1) (by walk_at "sto") (by walk_at "v") ?_
    refine tk_setLcV (α := List Nat × Bool) (i := 2) (l := (labels.zip [c0, c1, c2, c3, c4, c5, c6, c7, c8, c9, c10, c11, c12, c13]).map fun p => (p.1, C == p.2)) (g := fun p => .tup [.str p.1, .bl p.2]) (f := fun p => .str p.1) (tt := fun p => p.2) (own := [("_law_name", 3), ("_law_is_one", 4)]) (t := .tp [3, 4]) (by rfl) (by rfl) (by rfl) (by decide +kernel) (by exact Nat.le_of_ble_eq_true rfl) (by walk_at "tgs") (by walk_at "blk") (by decide) (tvi_lst (TV.castL (by walk_at "v") (by rfl))) (by exact Nat.le_of_ble_eq_true rfl) (fun _ _ => rfl) (fun p _ => ⟨by walk_at "t", fun _ => by walk_at "v"⟩) ?_
    have e1 : (((labels.zip [c0, c1, c2, c3, c4, c5, c6, c7, c8, c9, c10, c11, c12, c13]).map fun p => (p.1, C == p.2)).filter fun p => p.2).map (fun p => DT.str p.1) = (hits [c0, c1, c2, c3, c4, c5, c6, c7, c8, c9, c10, c11, c12, c13] C).map fun p => DT.str p.1 := by
      rw [List.filter_map, List.map_map]
      rfl
    rw [e1]
    unfold kindOf at q
    generalize hits [c0, c1, c2, c3, c4, c5, c6, c7, c8, c9, c10, c11, c12, c13] C = hs at q ⊢
    rcases hs with _ | ⟨p1, _ | ⟨p2, r⟩⟩
    · exact tk_ret (TV.cast (tv_if (x := .non) (by walk_at "t") (fun z => by simp at z) (fun _ => by walk_at "v")) (by rfl)) q
    · exact tk_ret (TV.cast (tv_if (by walk_at "t") (fun _ => by walk_at "v") (fun _ => by walk_at "v")) (by rfl)) q
    · have hl : (decide ((((p1 :: p2 :: r).map fun p => DT.str p.1).length : Int) = 1) && true) = false := by
        rw [Bool.and_true, decide_eq_false_iff_not, List.length_map, List.length_cons, List.length_cons]
        omega
      exact tk_ret (TV.cast (tv_if (x := .non) (by walk_at "t") (fun z => by rw [hl] at z; cases z) (fun _ => by walk_at "v")) (by rw [hl]; rfl)) q
end
end Y

/-! ### except clauses of the classes of errors -/
namespace Y
open PySem PySem.Spec L2 SX Z
def famXB (F : PySem.W.Frag) (cs : List Addr) (we : Addr) : Bool := (we :: cs).all fun C => PySem.W.exmOne F (.ref C) (.ref we) == some true && cs.all fun D => PySem.W.exmOne F (.ref C) (.ref D) == some (C == D)
structure FamX (F : PySem.W.Frag) (cs : List Addr) (we : Addr) : Prop where
  w : ∀ C ∈ we :: cs, PySem.W.exmOne F (.ref C) (.ref we) = some true
  o : ∀ C ∈ we :: cs, ∀ D ∈ cs, PySem.W.exmOne F (.ref C) (.ref D) = some (C == D)
theorem famXB_ok {F : PySem.W.Frag} {cs : List Addr} {we : Addr} (h : famXB F cs we = true) : FamX F cs we := by
  unfold famXB at h
  rw [List.all_eq_true] at h
  have h3 : ∀ C ∈ we :: cs, _ := fun C hC => (by simpa only [Bool.and_eq_true, beq_iff_eq, List.all_eq_true] using h C hC : PySem.W.exmOne F (.ref C) (.ref we) = some true ∧ ∀ D ∈ cs, PySem.W.exmOne F (.ref C) (.ref D) = some (C == D))
  exact ⟨fun C hC => (h3 C hC).1, fun C hC => (h3 C hC).2⟩
end Y

/-! ### is_integer of any value of a built-in type -/
namespace Y
open PySem PySem.Spec L2 SX Z
def isIntV (y : DT) (lo hi : Int) : Bool := match y with
  | .int i => decide (lo ≤ i) && decide (i ≤ hi)
  | _ => false
theorem kit_int : ∀ T ∈ tys, T = "int" ∨ T = "bool" ∨ kitB T "int" = some false := by
  intro T hT
  simp only [tys, List.mem_cons, List.not_mem_nil, or_false] at hT
  rcases hT with rfl | rfl | rfl | rfl | rfl | rfl | rfl
  · exact .inr (.inr (by decide +kernel))
  · exact .inr (.inl rfl)
  · exact .inl rfl
  · exact .inr (.inr (by decide +kernel))
  · exact .inr (.inr (by decide +kernel))
  · exact .inr (.inr (by decide +kernel))
  · exact .inr (.inr (by decide +kernel))
theorem ty_int {σ : Sg} {y : DT} (h : tyT σ y = some "int") : ∃ i, y = .int i := by
  cases y with
  | int i => exact ⟨i, rfl⟩
  | ref p =>
    unfold tyT at h
    cases e : σ p with
    | none => simp [e] at h
    | some cc => cases cc <;> simp [e] at h
  | _ => simp [tyT] at h
theorem ty_bl {σ : Sg} {y : DT} (h : tyT σ y = some "bool") : ∃ i, y = .bl i := by
  cases y with
  | bl i => exact ⟨i, rfl⟩
  | ref p =>
    unfold tyT at h
    cases e : σ p with
    | none => simp [e] at h
    | some cc => cases cc <;> simp [e] at h
  | _ => simp [tyT] at h
def spIntB : TSpec := fun ds σ Q E => ∃ (y : DT) (lo hi : Int), ds = [y, .int lo, .int hi] ∧ bi y = true ∧ Q (.bl (isIntV y lo hi)) σ
section
variable {P : Program} {w : World} {F : PySem.W.Frag} {mg : Str → Option Value} {base : Heap}
set_option maxHeartbeats 400000
theorem ok_is_integerB (Fn : DfN F mg "is_integer" ["value", "low", "high"] s_is_integer) (b1 : mg "isinstance" = none) (b2 : mg "int" = none) (b3 : mg "bool" = none) : Dt P w F mg base "is_integer" ["value", "low", "high"] 1 spIntB := by
  refine dt_ok Fn sc_is_integer (fun ds σ Q E h => ?_) (fun ds σ Q E Wx h => ?_)
  · obtain ⟨y, lo, hi, rfl, _⟩ := h
    rfl
  · obtain ⟨y, lo, hi, rfl, hy, q⟩ := h
    obtain ⟨T, hT, mem⟩ := bi_ty hy
    have hT := hT σ
    rcases kit_int T (tyT_mem hT) with rfl | rfl | hk
    · obtain ⟨i, rfl⟩ := ty_int hT
      refine tk_ifF (TB.cast (tb_W (tbw_or (tb_not (tb_val (tv_callB (by rfl) (by walk_at "as") (by walk_at "bt") (by walk_at "va") (pf_isi (r := true) (by rfl) (by decide +kernel))))) (fun _ => tbw_or1 (tb_val (tv_callB (by rfl) (by walk_at "as") (by walk_at "bt") (by walk_at "va") (pf_isi (r := false) (by rfl) (by decide +kernel))))))) (by rfl)) (tk_nil ?_)
      exact tk_ret (TV.castB (tv_and (by walk_at "v") (fun _ => tv_one (tv_or (r := false) (TV.castB (i := isNon (.int hi)) (by walk_at "v") rfl) (fun _ => tv_one (by walk_at "v"))))) (by rfl)) q
    · obtain ⟨b, rfl⟩ := ty_bl hT
      refine tk_ifT (TB.cast (tb_W (tbw_or (tb_not (tb_val (tv_callB (by rfl) (by walk_at "as") (by walk_at "bt") (by walk_at "va") (pf_isi (r := true) (by rfl) (by decide +kernel))))) (fun _ => tbw_or1 (tb_val (tv_callB (by rfl) (by walk_at "as") (by walk_at "bt") (by walk_at "va") (pf_isi (r := true) (by rfl) (by decide +kernel))))))) (by rfl)) ?_
      exact tk_ret (v := .bl false) (by walk_at "v") q
    · have e : isIntV y lo hi = false := by
        cases y with
        | int i => cases hT; exact absurd hk (by decide +kernel)
        | _ => rfl
      rw [e] at q
      refine tk_ifT (TB.cast (tb_W (tbw_or (s := true) (tb_not (tb_val (tv_callB (by rfl) (by walk_at "as") (by walk_at "bt") (by walk_at "va") (pf_isi (r := false) hT hk)))) (fun z => absurd z (by decide)))) (by rfl)) ?_
      exact tk_ret (v := .bl false) (by walk_at "v") q
end
end Y

/-! ### rows, widths: the checks raise -/
namespace Y
open PySem PySem.Spec L2 SX Z
/-- a value that may be asked whether it is a row, and is none -/
structure NoRw (y : DT) : Prop where
  t : ∀ σ, (tyT σ y).isSome = true
  s : ∀ s, y = .str s → s.length ≤ 1000000
  n : isRowV y = false
def spChkRowE (cR : Addr) : TSpec := fun ds σ Q E => ∃ y : DT, ds = [y] ∧ NoRw y ∧ E (.ref cR) none σ
def spChkWidthE (cW : Addr) : TSpec := fun ds σ Q E => ∃ (r : List Nat) (y : DT), ds = [.str r, y] ∧ r.length ≤ 1000000 ∧ bi y = true ∧ isIntV y 1 (min 12 (r.length : Int)) = false ∧ E (.ref cW) none σ
section
variable {P : Program} {w : World} {F : PySem.W.Frag} {mg : Str → Option Value} {base : Heap} {C cR cW f : Addr} {fd : FuncData} {qual : Str}
set_option maxHeartbeats 400000 in
theorem ok_check_rowE (L : Dt P w F mg base "is_row" ["value"] 2 spRow) (x : X1 F mg "InvalidRow" cR) (ZE : PySem.W.ExcA F cR) (Fn : DfN F mg "check_row" ["value"] s_check_row) : Dt P w F mg base "check_row" ["value"] 3 (spChkRowE cR) := by
  refine dt_ok Fn sc_check_row (fun ds σ Q E h => ?_) (fun ds σ Q E Wx h => ?_)
  · obtain ⟨y, rfl, _⟩ := h
    rfl
  · obtain ⟨y, rfl, hy, q⟩ := h
    refine tk_ifT (TB.cast (tb_not (tb_val (v_is_row L (by walk_at "k") (by rfl) (by walk_at "va" : TVA _ _ _ _ [y]) (hy.t σ) hy.s))) (by rw [hy.n]; rfl)) ?_
    exact tk_cons (ts_raise1 x.q ZE x.kp (by rfl) x.m q)
set_option maxHeartbeats 400000 in
theorem ok_check_widthE (L : Dt P w F mg base "is_integer" ["value", "low", "high"] 1 spIntB) (g : GlT F mg "WIDEST" (.int 12)) (b1 : mg "min" = none) (b2 : mg "len" = none) (x : X1 F mg "InvalidWidth" cW) (ZE : PySem.W.ExcA F cW) (Fn : DfN F mg "check_width" ["row", "value"] s_check_width) : Dt P w F mg base "check_width" ["row", "value"] 2 (spChkWidthE cW) := by
  refine dt_ok Fn sc_check_width (fun ds σ Q E h => ?_) (fun ds σ Q E Wx h => ?_)
  · obtain ⟨r, y, rfl, _⟩ := h
    rfl
  · obtain ⟨r, y, rfl, hr, hy, hno, q⟩ := h
    refine tk_ifT (TB.cast (tb_not (tb_val (tv_own (d := .bl false) L (by walk_at "k") (by rfl) (tva_cons (by walk_at "v" : TV _ _ _ _ y) (tva_cons (by walk_at "v" : TV _ _ _ _ (.int 1)) (tva_cons (tv_callB (by rfl) (by walk_at "as") (by walk_at "bt") (tva_cons (by walk_at "v" : TV _ _ _ _ (.int 12)) (tva_cons (tv_callB (by rfl) (by walk_at "as") (by walk_at "bt") (by walk_at "va" : TVA _ _ _ _ [.str r]) (pf_lenS (by omega))) tva_nil)) pf_min2) tva_nil))) (fun q => ⟨y, 1, min 12 (r.length : Int), rfl, hy, by rw [hno]; exact q⟩)))) (by rfl)) ?_
    exact tk_cons (ts_raise1 x.q ZE x.kp (by rfl) x.m q)
end
end Y

/-! ### k06: values that are no tallies; what the checks raise -/
namespace Y
open PySem PySem.Spec L2 SX Z
/-- an integer of at least one -/
def posV (y : DT) : Bool := match y with
  | .int i => decide (1 ≤ i)
  | _ => false
def spIntP : TSpec := fun ds σ Q E => ∃ y : DT, ds = [y, .int 1, .non] ∧ bi y = true ∧ Q (.bl (posV y)) σ
theorem dvl_mem {kvs : List (DK × DT)} (h : (kvs.map (·.1)).Nodup) : ∀ p ∈ kvs, dvl kvs p.1 = some p.2 := by
  induction kvs with
  | nil => intro p hp; cases hp
  | cons q t ih =>
    intro p hp
    rw [List.map_cons, List.nodup_cons] at h
    unfold dvl at ih ⊢
    rw [List.find?_cons]
    rcases List.mem_cons.mp hp with e | hp
    · rw [e, decide_eq_true rfl]
      rfl
    · rw [decide_eq_false (fun e : q.1 = p.1 => h.1 (by rw [e]; exact List.mem_map.mpr ⟨p, hp, rfl⟩))]
      exact ih h.2 p hp
/-- a value that is no tally of windows of the width w -/
inductive NoCnt (w : Nat) : DT → Prop
  | no {y : DT} (t : ∀ σ : Sg, ∃ T, tyT σ y = some T ∧ kitB T "dict" = some false) : NoCnt w y
  | key {kvs : List (DK × DT)} (n : kvs.length ≤ 1000) (s : ∀ p ∈ kvs, ∀ x, p.1 = .inr x → x.length ≤ 1000) (h : (kvs.map fun p => isLettersV (dk p.1) w w).all id = false) : NoCnt w (.dct kvs)
  | val {kvs : List (DK × DT)} (n : kvs.length ≤ 1000) (nd : (kvs.map (·.1)).Nodup) (s : ∀ p ∈ kvs, ∀ x, p.1 = .inr x → x.length ≤ 1000) (h1 : (kvs.map fun p => isLettersV (dk p.1) w w).all id = true) (b : ∀ p ∈ kvs, bi p.2 = true) (h2 : (kvs.map fun p => posV p.2).all id = false) : NoCnt w (.dct kvs)
  | big {t : CS} (n : t.length ≤ 1000) (nd : (t.map (·.1)).Nodup) (hk : ∀ p ∈ t, p.1.length = w ∧ p.1.all isLet = true) (hp : ∀ p ∈ t, 1 ≤ p.2) (hs : 201 < csum t + w) : NoCnt w (.dct (cD t))
  | odd {kvs : List (OKey × Int)} (n : kvs.length ≤ 1000) (s : ∀ p ∈ kvs, ∀ x, p.1 = .txt x → x.length ≤ 1000) (h : (kvs.map fun p => isLettersV (okT p.1) w w).all id = false) : NoCnt w (.dco kvs)
def spIsCountsN : TSpec := fun ds σ Q E => ∃ (w : Nat) (y : DT), ds = [.int (w : Int), y] ∧ 1 ≤ w ∧ w ≤ 12 ∧ NoCnt w y ∧ Q (.bl false) σ
def spInitE (C cW cC : Addr) : TSpec := fun ds σ Q E => ∃ (o : Addr) (y z : DT), ds = [.ref o, y, z] ∧ ((bi y = true ∧ isIntV y 1 12 = false ∧ E (.ref cW) none σ) ∨ (∃ w : Nat, y = .int (w : Int) ∧ 1 ≤ w ∧ w ≤ 12 ∧ NoCnt w z ∧ E (.ref cC) none σ))
def spOfE (C cR cW : Addr) : TSpec := fun ds σ Q E => ∃ x y : DT, ds = [.ref C, x, y] ∧ ((NoRw x ∧ E (.ref cR) none σ) ∨ (∃ r, x = .str r ∧ rowOk r ∧ bi y = true ∧ isIntV y 1 (min 12 (r.length : Int)) = false ∧ E (.ref cW) none σ))
def spTimesE (C cN : Addr) : TSpec := fun ds σ Q E => ∃ (w : Nat) (t : CS) (y : DT), ds = [tabT C w t, y] ∧ w ≤ 12 ∧ (∀ σ : Sg, (tyT σ y).isSome = true) ∧ (∀ s, y = .str s → s.length ≤ 1000000) ∧ isLettersV y w w = false ∧ E (.ref cN) none σ
section
variable {P : Program} {w : World} {F : PySem.W.Frag} {mg : Str → Option Value} {base : Heap} {C cR cW cC cN f : Addr} {fd : FuncData} {qual : Str}
local macro_rules | `(tactic| walk_at "fl") => `(tactic| exact tv_fld (by walk_at "v") (.inl rfl) (by assumption) (by assumption) (by rfl))
set_option maxHeartbeats 400000 in
theorem ok_is_integerP (Fn : DfN F mg "is_integer" ["value", "low", "high"] s_is_integer) (b1 : mg "isinstance" = none) (b2 : mg "int" = none) (b3 : mg "bool" = none) : Dt P w F mg base "is_integer" ["value", "low", "high"] 1 spIntP := by
  refine dt_ok Fn sc_is_integer (fun ds σ Q E h => ?_) (fun ds σ Q E Wx h => ?_)
  · obtain ⟨y, rfl, _⟩ := h
    rfl
  · obtain ⟨y, rfl, hy, q⟩ := h
    obtain ⟨T, hT, mem⟩ := bi_ty hy
    have hT := hT σ
    rcases kit_int T (tyT_mem hT) with rfl | rfl | hk
    · obtain ⟨i, rfl⟩ := ty_int hT
      refine tk_ifF (TB.cast (tb_W (tbw_or (tb_not (tb_val (tv_callB (by rfl) (by walk_at "as") (by walk_at "bt") (by walk_at "va") (pf_isi (r := true) (by rfl) (by decide +kernel))))) (fun _ => tbw_or1 (tb_val (tv_callB (by rfl) (by walk_at "as") (by walk_at "bt") (by walk_at "va") (pf_isi (r := false) (by rfl) (by decide +kernel))))))) (by rfl)) (tk_nil ?_)
      exact tk_ret (TV.castB (tv_and (by walk_at "v") (fun _ => tv_one (tv_or (r := true) (s := true) (TV.castB (i := isNon .non) (by walk_at "v") rfl) (fun z => nomatch z)))) (by
        show (_ && true) = posV (.int i)
        rw [Bool.and_true]
        rfl)) q
    · obtain ⟨b, rfl⟩ := ty_bl hT
      refine tk_ifT (TB.cast (tb_W (tbw_or (tb_not (tb_val (tv_callB (by rfl) (by walk_at "as") (by walk_at "bt") (by walk_at "va") (pf_isi (r := true) (by rfl) (by decide +kernel))))) (fun _ => tbw_or1 (tb_val (tv_callB (by rfl) (by walk_at "as") (by walk_at "bt") (by walk_at "va") (pf_isi (r := true) (by rfl) (by decide +kernel))))))) (by rfl)) ?_
      exact tk_ret (v := .bl false) (by walk_at "v") q
    · have e : posV y = false := by
        cases y with
        | int i => cases hT; exact absurd hk (by decide +kernel)
        | _ => rfl
      rw [e] at q
      refine tk_ifT (TB.cast (tb_W (tbw_or (s := true) (tb_not (tb_val (tv_callB (by rfl) (by walk_at "as") (by walk_at "bt") (by walk_at "va") (pf_isi (r := false) hT hk)))) (fun z => absurd z (by decide)))) (by rfl)) ?_
      exact tk_ret (v := .bl false) (by walk_at "v") q
theorem ty_dk (σ : Sg) (k : DK) : (tyT σ (dk k)).isSome = true := by
  cases k <;> rfl
theorem ty_okT (σ : Sg) (k : OKey) : (tyT σ (okT k)).isSome = true := by
  cases k <;> rfl
set_option maxHeartbeats 1000000 in
theorem ok_is_countsN (L1 : Dt P w F mg base "is_integer" ["value", "low", "high"] 1 spIntP) (L2 : Dt P w F mg base "is_letters" ["value", "low", "high"] 1 spLetters) (L3 : Dt P w F mg base "most_windows" ["width"] 1 spMost)
    (Fn : DfN F mg "is_counts" ["width", "value"] s_is_counts) (b1 : mg "isinstance" = none) (b2 : mg "dict" = none) (b3 : mg "all" = none) (b4 : mg "sum" = none) : Dt P w F mg base "is_counts" ["width", "value"] 2 spIsCountsN := by
  refine dt_ok Fn sc_is_counts (fun ds σ Q E h => ?_) (fun ds σ Q E Wx h => ?_)
  · obtain ⟨w, y, rfl, _⟩ := h
    rfl
  · obtain ⟨w, y, rfl, w1, w2, hn, q⟩ := h
    cases hn with
    | no t =>
      obtain ⟨T, hT, hk⟩ := t σ
      refine tk_ifT (TB.cast (tb_W (tbw_or (s := true) (tb_not (tb_val (tv_callB (by rfl) (by walk_at "as") (by walk_at "bt") (by walk_at "va") (pf_isi (r := false) hT hk)))) (fun z => absurd z (by decide)))) (by rfl)) ?_
      exact tk_ret (v := .bl false) (by walk_at "v") q
    | @key kvs n s h =>
      have e1 : (kvs.map fun p => DT.bl (isLettersV (dk p.1) w w)) = (kvs.map fun p => isLettersV (dk p.1) w w).map DT.bl := by rw [List.map_map]; rfl
      refine tk_ifT (TB.cast (tb_W (tbw_or (tb_not (tb_val (tv_callB (by rfl) (by walk_at "as") (by walk_at "bt") (by walk_at "va") (pf_isi (r := true) (by rfl) (by decide +kernel))))) (fun _ => tbw_or1 (tb_not (tb_val (tv_callB (by rfl) (by walk_at "as") (by walk_at "bt") (tva_cons (TV.castL (tv_lcM (α := DK × DT) (l := kvs) (g := fun p => dk p.1) (f := fun p => .bl (isLettersV (dk p.1) w w)) (own := [("window", 2)]) (t := .nm 2) (by walk_at "tgt") (by walk_at "blk") (by decide) (tvi_keys (by walk_at "v" : TV _ _ _ _ (.dct kvs))) (by omega) (fun _ _ => rfl)
        (fun p hp => v_is_letters L2 (by walk_at "k") (by rfl) (by walk_at "va") (ty_dk _ _) (fun x e => by
          have := s p hp x (by cases z : p.1 <;> rw [z] at e <;> cases e; rfl)
          omega))) e1) tva_nil) (pf_all lsT_l))))))) (by rw [h]; rfl)) ?_
      exact tk_ret (v := .bl false) (by walk_at "v") q
    | @odd kvs n s h =>
      have e1 : (kvs.map fun p => DT.bl (isLettersV (okT p.1) w w)) = (kvs.map fun p => isLettersV (okT p.1) w w).map DT.bl := by rw [List.map_map]; rfl
      refine tk_ifT (TB.cast (tb_W (tbw_or (tb_not (tb_val (tv_callB (by rfl) (by walk_at "as") (by walk_at "bt") (by walk_at "va" : TVA _ _ _ _ [.dco kvs, .ty "dict"]) (pf_isiO (r := true) (by decide +kernel))))) (fun _ => tbw_or1 (tb_not (tb_val (tv_callB (by rfl) (by walk_at "as") (by walk_at "bt") (tva_cons (TV.castL (tv_lcM (α := OKey × Int) (l := kvs) (g := fun p => okT p.1) (f := fun p => .bl (isLettersV (okT p.1) w w)) (own := [("window", 2)]) (t := .nm 2) (by walk_at "tgt") (by walk_at "blk") (by decide) (tvi_keysO (by walk_at "v" : TV _ _ _ _ (.dco kvs))) (by omega) (fun _ _ => rfl)
        (fun p hp => v_is_letters L2 (by walk_at "k") (by rfl) (by walk_at "va") (ty_okT _ _) (fun x e => by
          have := s p hp x (by cases z : p.1 <;> rw [z] at e <;> cases e; rfl)
          omega))) e1) tva_nil) (pf_all lsT_l))))))) (by rw [h]; rfl)) ?_
      exact tk_ret (v := .bl false) (by walk_at "v") q
    | @val kvs n nd s h1 b h2 =>
      have e1 : (kvs.map fun p => DT.bl (isLettersV (dk p.1) w w)) = (kvs.map fun p => isLettersV (dk p.1) w w).map DT.bl := by rw [List.map_map]; rfl
      have e2 : (kvs.map fun p => DT.bl (posV p.2)) = (kvs.map fun p => posV p.2).map DT.bl := by rw [List.map_map]; rfl
      refine tk_ifF (TB.cast (tb_W (tbw_or (tb_not (tb_val (tv_callB (by rfl) (by walk_at "as") (by walk_at "bt") (by walk_at "va") (pf_isi (r := true) (by rfl) (by decide +kernel))))) (fun _ => tbw_or1 (tb_not (tb_val (tv_callB (by rfl) (by walk_at "as") (by walk_at "bt") (tva_cons (TV.castL (tv_lcM (α := DK × DT) (l := kvs) (g := fun p => dk p.1) (f := fun p => .bl (isLettersV (dk p.1) w w)) (own := [("window", 2)]) (t := .nm 2) (by walk_at "tgt") (by walk_at "blk") (by decide) (tvi_keys (by walk_at "v" : TV _ _ _ _ (.dct kvs))) (by omega) (fun _ _ => rfl)
        (fun p hp => v_is_letters L2 (by walk_at "k") (by rfl) (by walk_at "va") (ty_dk _ _) (fun x e => by
          have := s p hp x (by cases z : p.1 <;> rw [z] at e <;> cases e; rfl)
          omega))) e1) tva_nil) (pf_all lsT_l))))))) (by rw [h1]; rfl)) (tk_nil ?_)
      refine tk_ifT (TB.cast (tb_not (tb_val (tv_callB (by rfl) (by walk_at "as") (by walk_at "bt") (tva_cons (TV.castL (tv_lcM (α := DK × DT) (l := kvs) (g := fun p => dk p.1) (f := fun p => .bl (posV p.2)) (own := [("window", 2)]) (t := .nm 2) (by walk_at "tgt") (by walk_at "blk") (by decide) (tvi_keys (by walk_at "v" : TV _ _ _ _ (.dct kvs))) (by omega) (fun _ _ => rfl)
        (fun p hp => tv_own (d := .bl (posV p.2)) L1 (by walk_at "k") (by rfl) (tva_cons (tv_dix (d := p.2) (k := p.1) (by walk_at "v") (by walk_at "v") diT_l (dvl_mem nd p hp)) (by walk_at "va" : TVA _ _ _ _ [.int 1, .non])) (fun q => ⟨p.2, rfl, b p hp, q⟩))) e2) tva_nil) (pf_all lsT_l)))) (by rw [h2]; rfl)) ?_
      exact tk_ret (v := .bl false) (by walk_at "v") q
    | @big t n nd hk hp hs =>
      have hn : t.length ≤ 1000000 := by omega
      have e1 : (t.map fun p => DT.bl true) = (t.map fun _ => true).map DT.bl := by rw [List.map_map]; rfl
      have e2 : (t.map fun p => DT.int p.2) = (t.map (·.2)).map DT.int := by rw [List.map_map]; rfl
      refine tk_ifF (TB.cast (tb_W (tbw_or (tb_not (tb_val (tv_callB (by rfl) (by walk_at "as") (by walk_at "bt") (by walk_at "va") (pf_isi (r := true) (by rfl) (by decide +kernel))))) (fun _ => tbw_or1 (tb_not (tb_val (tv_callB (by rfl) (by walk_at "as") (by walk_at "bt") (tva_cons (TV.castL (tv_lcM (α := List Nat × Int) (l := t) (g := fun p => .str p.1) (f := fun _ => .bl true) (own := [("window", 2)]) (t := .nm 2) (by walk_at "tgt") (by walk_at "blk") (by decide) (cD_walk t ▸ tvi_keys (by walk_at "v")) hn (fun _ _ => rfl)
        (fun p hq => TV.castB (v_is_letters L2 (by walk_at "k") (by rfl) (by walk_at "va") rfl (fun s e => by cases e; have := (hk p hq).1; omega)) (by
          obtain ⟨k1, k2⟩ := hk p hq
          unfold isLettersV
          simp only [k1, k2, Bool.and_true, Bool.and_eq_true, decide_eq_true_eq]
          omega))) e1) tva_nil) (pf_all lsT_l))))))) (by rw [all_true]; rfl)) (tk_nil ?_)
      refine tk_ifF (TB.cast (tb_not (tb_val (tv_callB (by rfl) (by walk_at "as") (by walk_at "bt") (tva_cons (TV.castL (tv_lcM (α := List Nat × Int) (l := t) (g := fun p => .str p.1) (f := fun _ => .bl true) (own := [("window", 2)]) (t := .nm 2) (by walk_at "tgt") (by walk_at "blk") (by decide) (cD_walk t ▸ tvi_keys (by walk_at "v")) hn (fun _ _ => rfl)
        (fun p hq => tv_own (d := .bl true) L1 (by walk_at "k") (by rfl) (tva_cons (tv_dix (d := .int p.2) (k := .inr p.1) (by walk_at "v") (by walk_at "v") diT_l (by rw [cD_get, cget_mem nd p hq]; rfl)) (by walk_at "va" : TVA _ _ _ _ [.int 1, .non])) (fun q => ⟨.int p.2, rfl, rfl, by
          show _
          rw [show posV (.int p.2) = true from decide_eq_true (hp p hq)]
          exact q⟩))) e1) tva_nil) (pf_all lsT_l)))) (by rw [all_true]; rfl)) (tk_nil ?_)
      refine tk_ret (TV.castB (j := false) (tv_cmp (tv_callB (by rfl) (by walk_at "as") (by walk_at "bt") (tva_cons (TV.castL (tv_lcM (α := List Nat × Int) (l := t) (g := fun p => .str p.1) (f := fun p => .int p.2) (own := [("window", 2)]) (t := .nm 2) (by walk_at "tgt") (by walk_at "blk") (by decide) (cD_walk t ▸ tvi_keys (by walk_at "v")) hn (fun _ _ => rfl)
        (fun p hq => tv_dix (d := .int p.2) (k := .inr p.1) (by walk_at "v") (by walk_at "v") diT_l (by rw [cD_get, cget_mem nd p hq]; rfl))) e2) tva_nil) (pf_sum lsT_l)) (tv_own (d := .int (200 - (w : Int) + 1)) L3 (by walk_at "k") (by rfl) (by walk_at "va") (fun q => ⟨_, rfl, q⟩)) (by walk_at "o2") (by rfl)) ?_) q
      unfold csum at hs
      exact decide_eq_false (by omega)
set_option maxHeartbeats 400000 in
theorem ok_tab_initE (L1 : Dt P w F mg base "is_integer" ["value", "low", "high"] 1 spIntB) (L2 : Dt P w F mg base "is_counts" ["width", "value"] 2 spIsCountsN) (g : GlT F mg "WIDEST" (.int 12)) (x1 : X1 F mg "InvalidWidth" cW) (Z1 : PySem.W.ExcA F cW) (x2 : X1 F mg "InvalidCounts" cC) (Z2 : PySem.W.ExcA F cC)
    (Fn : Fun F "__init__" qual s_Table_init f fd) : FnG P w F mg base 3 f fd ["self", "width", "counts"] (spT F (spInitE C cW cC)) := by
  refine fnT_ok Fn sc_Table_init (fun ds σ Q E h => ?_) (fun ds σ Q E Wx h => ?_)
  · obtain ⟨o, y, z, rfl, _⟩ := h
    rfl
  · obtain ⟨o, y, z, rfl, h⟩ := h
    rcases h with ⟨hy, hno, q⟩ | ⟨w, rfl, w1, w2, hz, q⟩
    · refine tk_ifT (TB.cast (tb_not (tb_val (tv_own (d := .bl false) L1 (by walk_at "k") (by rfl) (by walk_at "va" : TVA _ _ _ _ [y, .int 1, .int 12]) (fun q => ⟨y, 1, 12, rfl, hy, by rw [hno]; exact q⟩)))) (by rfl)) ?_
      exact tk_cons (ts_raise1 x1.q Z1 x1.kp (by rfl) x1.m q)
    · refine tk_ifF (TB.cast (tb_not (tb_val (tv_own (d := .bl true) L1 (by walk_at "k") (by rfl) (by walk_at "va" : TVA _ _ _ _ [.int (w : Int), .int 1, .int 12]) (fun q => ⟨.int (w : Int), 1, 12, rfl, rfl, by
        have a1 : (1 : Int) ≤ w := by omega
        have a2 : (w : Int) ≤ 12 := by omega
        unfold isIntV
        simp only [decide_eq_true a1, decide_eq_true a2]
        exact q⟩)))) (by rfl)) (tk_nil ?_)
      refine tk_ifT (TB.cast (tb_not (tb_val (tv_own (d := .bl false) L2 (by walk_at "k") (by rfl) (by walk_at "va" : TVA _ _ _ _ [.int (w : Int), z]) (fun q => ⟨w, z, rfl, w1, w2, hz, q⟩)))) (by rfl)) ?_
      exact tk_cons (ts_raise1 x2.q Z2 x2.kp (by rfl) x2.m q)
set_option maxHeartbeats 400000 in
theorem ok_tab_ofE (L1 : Dt P w F mg base "check_row" ["value"] 3 spChkRow) (L1E : Dt P w F mg base "check_row" ["value"] 3 (spChkRowE cR)) (L2E : Dt P w F mg base "check_width" ["row", "value"] 2 (spChkWidthE cW)) (Fn : Fun F "of" qual s_Table_of f fd) : FnG P w F mg base 5 f fd ["cls", "row", "width"] (spT F (spOfE C cR cW)) := by
  refine fnT_ok Fn sc_Table_of (fun ds σ Q E h => ?_) (fun ds σ Q E Wx h => ?_)
  · obtain ⟨x, y, rfl, _⟩ := h
    rfl
  · obtain ⟨x, y, rfl, h⟩ := h
    rcases h with ⟨hy, q⟩ | ⟨r, rfl, hr, hz, hno, q⟩
    · exact tk_cons (ts_expr (te_own L1E (by walk_at "k") (by rfl) ((by walk_at "va" : TVA _ _ _ _ [x]).to ⟨x, rfl, hy, q⟩)))
    · have l2 := hr.2.1
      refine tk_cons (ts_expr (te_own L1 (by walk_at "k") (by rfl) ((by walk_at "va" : TVA _ _ _ _ [.str r]).to ⟨r, rfl, hr, ?_⟩)))
      exact tk_cons (ts_expr (te_own L2E (by walk_at "k") (by rfl) ((by walk_at "va" : TVA _ _ _ _ [.str r, y]).to ⟨r, y, rfl, by omega, hz, hno, q⟩)))
set_option maxHeartbeats 400000 in
theorem ok_tab_timesE (L : Dt P w F mg base "is_letters" ["value", "low", "high"] 1 spLetters) (hc : Cls F C) (n1 : NoAttr F C "letters") (x : X1 F mg "InvalidWindow" cN) (ZE : PySem.W.ExcA F cN) (Fn : Fun F "times_of" qual s_Table_times_of f fd) : FnG P w F mg base 2 f fd ["self", "window"] (spT F (spTimesE C cN)) := by
  refine fnT_ok Fn sc_Table_times_of (fun ds σ Q E h => ?_) (fun ds σ Q E Wx h => ?_)
  · obtain ⟨w, t, y, rfl, _⟩ := h
    rfl
  · obtain ⟨w, t, y, rfl, w2, ht, hs, hno, q⟩ := h
    unfold tabT
    refine tk_ifT (TB.cast (tb_not (tb_val (TV.castB (j := false) (v_is_letters L (by walk_at "k") (by rfl) (tva_cons (by walk_at "v" : TV _ _ _ _ y) (tva_cons (by walk_at "fl") (tva_cons (by walk_at "fl") tva_nil))) (ht σ) hs) hno))) (by rfl)) ?_
    exact tk_cons (ts_raise1 x.q ZE x.kp (by rfl) x.m q)
end
end Y

/-! ### k06: what a call tells -/
namespace Y
open PySem PySem.Spec L2 SX Z
inductive Told6 (C : Addr) : Nat → DT → DT → List Nat → Prop
  | wid {y z : DT} : bi y = true → isIntV y 1 12 = false → Told6 C 0 y z (sOf "width")
  | cnt {w : Nat} {z : DT} : 1 ≤ w → w ≤ 12 → NoCnt w z → Told6 C 0 (.int (w : Int)) z (sOf "counts")
  | good {w : Nat} {t : CS} : 1 ≤ w → w ≤ 12 → CSok w t → Told6 C 0 (.int (w : Int)) (.dct (cD t)) (sOf "fine")
  | row {x y : DT} : NoRw x → Told6 C 1 x y (sOf "row")
  | rwid {r : List Nat} {y : DT} : rowOk r → bi y = true → isIntV y 1 (min 12 (r.length : Int)) = false → Told6 C 1 (.str r) y (sOf "width")
  | rgood {r : List Nat} {w : Nat} : rowOk r → 1 ≤ w → w ≤ 12 → w ≤ r.length → Told6 C 1 (.str r) (.int (w : Int)) (sOf "fine")
  | win {w : Nat} {t : CS} {y : DT} : w ≤ 12 → (∀ σ : Sg, (tyT σ y).isSome = true) → (∀ s, y = .str s → s.length ≤ 1000000) → isLettersV y w w = false → Told6 C 2 (tabT C w t) y (sOf "window")
  | wgood {w : Nat} {t : CS} {k : List Nat} : k.length = w → w ≤ 12 → k.all isLet = true → Told6 C 2 (tabT C w t) (.str k) (sOf "fine")
def spTold6 (C : Addr) : TSpec := fun ds σ Q E => ∃ (d : Nat) (x y : DT) (res : List Nat), ds = [.int (d : Int), x, y] ∧ Told6 C d x y res ∧ Q (.str res) σ
section
variable {P : Program} {w : World} {F : PySem.W.Frag} {mg : Str → Option Value} {base : Heap} {C c0 c1 c2 c3 c4 c5 c6 c7 c8 c9 c10 c11 c12 c13 we : Addr}
set_option maxHeartbeats 2000000 in
theorem ok_told6 (fam : Fam F [c0, c1, c2, c3, c4, c5, c6, c7, c8, c9, c10, c11, c12, c13] we) (famx : FamX F [c0, c1, c2, c3, c4, c5, c6, c7, c8, c9, c10, c11, c12, c13] we) (hc : Cls F C) (hmT : mg "Table" = some (.ref C)) (mw : mg "WindowError" = some (.ref we))
    (LK : ∀ a oe, DtQ (some (a, oe)) P w F mg base "_law_kind" ["_law_e"] 1 (spKindH a oe [c0, c1, c2, c3, c4, c5, c6, c7, c8, c9, c10, c11, c12, c13] we)) (MI : DtI P w F mg base C ["self", "width", "counts"] 3 (spInit C)) (ME : DtI P w F mg base C ["self", "width", "counts"] 3 (spInitE C c1 c2)) (MO : DtC P w F mg base C "of" ["cls", "row", "width"] 5 (spOf C)) (MOE : DtC P w F mg base C "of" ["cls", "row", "width"] 5 (spOfE C c0 c1))
    (MT : DtM P w F mg base C "times_of" ["self", "window"] 2 (spTimes C)) (MTE : DtM P w F mg base C "times_of" ["self", "window"] 2 (spTimesE C c4))
    (Fn : DfN F mg "_law_told" ["_law_door", "_law_one", "_law_other"] s_law_told) : Dt P w F mg base "_law_told" ["_law_door", "_law_one", "_law_other"] 6 (spTold6 C) := by
  refine dt_ok Fn sc_law_told (fun ds σ Q E h => ?_) (fun ds σ Q E Wx h => ?_)
  · obtain ⟨d, x, y, res, rfl, _⟩ := h
    rfl
  · obtain ⟨d, x, y, res, rfl, h, q⟩ := h
    have nd : [c0, c1, c2, c3, c4, c5, c6, c7, c8, c9, c10, c11, c12, c13].Nodup := (List.nodup_cons.mp fam.nd).2
    have k0 : kindOf [c0, c1, c2, c3, c4, c5, c6, c7, c8, c9, c10, c11, c12, c13] c0 = sOf "row" := kind_at (i := 0) nd rfl rfl
    have k1 : kindOf [c0, c1, c2, c3, c4, c5, c6, c7, c8, c9, c10, c11, c12, c13] c1 = sOf "width" := kind_at (i := 1) nd rfl rfl
    have k2 : kindOf [c0, c1, c2, c3, c4, c5, c6, c7, c8, c9, c10, c11, c12, c13] c2 = sOf "counts" := kind_at (i := 2) nd rfl rfl
    have k4 : kindOf [c0, c1, c2, c3, c4, c5, c6, c7, c8, c9, c10, c11, c12, c13] c4 = sOf "window" := kind_at (i := 4) nd rfl rfl
    refine tk_setV (i := 3) (by walk_at "sto") (by walk_at "v" : TV _ _ _ _ (.str (sOf "fine"))) ?_
    refine tk_cons (ts_try rfl (.cons (i := 4) (cv := .ref we) rfl rfl rfl rfl mw .nil) fun W => ?_)
    cases h with
    | @wid x y hy hno =>
      refine tk_ifT (TB.cast (tb_cmp (by walk_at "v" : TV _ _ _ _ (.int 0)) (by walk_at "v" : TV _ _ _ _ (.int 0)) po_eqI (by rfl)) (by rfl)) ?_
      refine tk_cons (ts_expr (te_make ME (by walk_at "k") (by rfl) hmT ((by walk_at "va" : TVA _ _ _ _ [x, y]).to fun o ho => ⟨o, x, y, rfl, .inl ⟨hy, hno, ?_⟩⟩)))
      refine ⟨true, famx.w c1 (by simp), fun _ a oe d e1 e2 => ?_, fun z => nomatch z⟩
      have e0 : sd (su σ o (.obj C [])) o = σ := sd_su ho
      refine tk_drop o ?_
      show TBk _ _ _ (sd (su σ o (.obj C [])) o) _
      rw [e0]
      exact tk_set (i := 3) (by walk_at "sto") (te_own (LK a oe) (by walk_at "k") (by rfl) (ta_v (by walk_at "v" : TV _ _ _ _ (.hot a d [])) (ta_nil ⟨c1, d, [], rfl, ⟨e1, e2⟩, by simp, by rw [k1]; exact tk_nil (tk_ret (by walk_at "v") q)⟩)))
    | @cnt w y w1 w2 hn =>
      refine tk_ifT (TB.cast (tb_cmp (by walk_at "v" : TV _ _ _ _ (.int 0)) (by walk_at "v" : TV _ _ _ _ (.int 0)) po_eqI (by rfl)) (by rfl)) ?_
      refine tk_cons (ts_expr (te_make ME (by walk_at "k") (by rfl) hmT ((by walk_at "va" : TVA _ _ _ _ [.int (w : Int), y]).to fun o ho => ⟨o, .int (w : Int), y, rfl, .inr ⟨w, rfl, w1, w2, hn, ?_⟩⟩)))
      refine ⟨true, famx.w c2 (by simp), fun _ a oe d e1 e2 => ?_, fun z => nomatch z⟩
      have e0 : sd (su σ o (.obj C [])) o = σ := sd_su ho
      refine tk_drop o ?_
      show TBk _ _ _ (sd (su σ o (.obj C [])) o) _
      rw [e0]
      exact tk_set (i := 3) (by walk_at "sto") (te_own (LK a oe) (by walk_at "k") (by rfl) (ta_v (by walk_at "v" : TV _ _ _ _ (.hot a d [])) (ta_nil ⟨c2, d, [], rfl, ⟨e1, e2⟩, by simp, by rw [k2]; exact tk_nil (tk_ret (by walk_at "v") q)⟩)))
    | @good w t w1 w2 ct =>
      refine tk_ifT (TB.cast (tb_cmp (by walk_at "v" : TV _ _ _ _ (.int 0)) (by walk_at "v" : TV _ _ _ _ (.int 0)) po_eqI (by rfl)) (by rfl)) ?_
      refine tk_cons (ts_expr (te_make MI (by walk_at "k") (by rfl) hmT ((by walk_at "va" : TVA _ _ _ _ [.int (w : Int), .dct (cD t)]).to fun o ho => ⟨o, w, t, rfl, su_same, w1, w2, ct, rfl, ?_⟩)))
      rw [su_su]
      refine tk_drop o ?_
      rw [sd_su ho]
      repeat refine tk_nil ?_
      exact tk_ret (by walk_at "v") q
    | @row x y hx =>
      refine tk_ifF (TB.cast (tb_cmp (by walk_at "v" : TV _ _ _ _ (.int 1)) (by walk_at "v" : TV _ _ _ _ (.int 0)) po_eqI (by rfl)) (by rfl)) ?_
      refine tk_ifT (TB.cast (tb_cmp (by walk_at "v" : TV _ _ _ _ (.int 1)) (by walk_at "v" : TV _ _ _ _ (.int 1)) po_eqI (by rfl)) (by rfl)) ?_
      refine tk_cons (ts_expr (te_clsm MOE (by walk_at "k") (by rfl) hmT ((by walk_at "va" : TVA _ _ _ _ [x, y]).to ⟨x, y, rfl, .inl ⟨hx, ?_⟩⟩) (fun env => ⟨_, rfl⟩)))
      refine ⟨true, famx.w c0 (by simp), fun _ a oe d e1 e2 => ?_, fun z => nomatch z⟩
      exact tk_set (i := 3) (by walk_at "sto") (te_own (LK a oe) (by walk_at "k") (by rfl) (ta_v (by walk_at "v" : TV _ _ _ _ (.hot a d [])) (ta_nil ⟨c0, d, [], rfl, ⟨e1, e2⟩, by simp, by rw [k0]; exact tk_nil (tk_ret (by walk_at "v") q)⟩)))
    | @rwid r y hr hy hno =>
      refine tk_ifF (TB.cast (tb_cmp (by walk_at "v" : TV _ _ _ _ (.int 1)) (by walk_at "v" : TV _ _ _ _ (.int 0)) po_eqI (by rfl)) (by rfl)) ?_
      refine tk_ifT (TB.cast (tb_cmp (by walk_at "v" : TV _ _ _ _ (.int 1)) (by walk_at "v" : TV _ _ _ _ (.int 1)) po_eqI (by rfl)) (by rfl)) ?_
      refine tk_cons (ts_expr (te_clsm MOE (by walk_at "k") (by rfl) hmT ((by walk_at "va" : TVA _ _ _ _ [.str r, y]).to ⟨.str r, y, rfl, .inr ⟨r, rfl, hr, hy, hno, ?_⟩⟩) (fun env => ⟨_, rfl⟩)))
      refine ⟨true, famx.w c1 (by simp), fun _ a oe d e1 e2 => ?_, fun z => nomatch z⟩
      exact tk_set (i := 3) (by walk_at "sto") (te_own (LK a oe) (by walk_at "k") (by rfl) (ta_v (by walk_at "v" : TV _ _ _ _ (.hot a d [])) (ta_nil ⟨c1, d, [], rfl, ⟨e1, e2⟩, by simp, by rw [k1]; exact tk_nil (tk_ret (by walk_at "v") q)⟩)))
    | @rgood r w hr w1 w2 w3 =>
      refine tk_ifF (TB.cast (tb_cmp (by walk_at "v" : TV _ _ _ _ (.int 1)) (by walk_at "v" : TV _ _ _ _ (.int 0)) po_eqI (by rfl)) (by rfl)) ?_
      refine tk_ifT (TB.cast (tb_cmp (by walk_at "v" : TV _ _ _ _ (.int 1)) (by walk_at "v" : TV _ _ _ _ (.int 1)) po_eqI (by rfl)) (by rfl)) ?_
      refine tk_cons (ts_expr (te_clsm MO (by walk_at "k") (by rfl) hmT ((by walk_at "va" : TVA _ _ _ _ [.str r, .int (w : Int)]).to ⟨r, w, rfl, hr, w1, w2, w3, ?_⟩) (fun env => ⟨_, rfl⟩)))
      repeat refine tk_nil ?_
      exact tk_ret (by walk_at "v") q
    | @win w t y w2 ht hs hno =>
      refine tk_ifF (TB.cast (tb_cmp (by walk_at "v" : TV _ _ _ _ (.int 2)) (by walk_at "v" : TV _ _ _ _ (.int 0)) po_eqI (by rfl)) (by rfl)) ?_
      refine tk_ifF (TB.cast (tb_cmp (by walk_at "v" : TV _ _ _ _ (.int 2)) (by walk_at "v" : TV _ _ _ _ (.int 1)) po_eqI (by rfl)) (by rfl)) ?_
      refine tk_cons (ts_expr (te_own_m MTE (by walk_at "k") hc ((by walk_at "v" : TV _ _ _ _ (tabT C w t)).to ⟨_, rfl, by rfl, (by walk_at "va" : TVA _ _ _ _ [y]).to ⟨w, t, y, rfl, w2, ht, hs, hno, ?_⟩⟩) (fun env => ⟨_, rfl⟩)))
      refine ⟨true, famx.w c4 (by simp), fun _ a oe d e1 e2 => ?_, fun z => nomatch z⟩
      exact tk_set (i := 3) (by walk_at "sto") (te_own (LK a oe) (by walk_at "k") (by rfl) (ta_v (by walk_at "v" : TV _ _ _ _ (.hot a d [])) (ta_nil ⟨c4, d, [], rfl, ⟨e1, e2⟩, by simp, by rw [k4]; exact tk_nil (tk_ret (by walk_at "v") q)⟩)))
    | @wgood w t k kl w2 ka =>
      refine tk_ifF (TB.cast (tb_cmp (by walk_at "v" : TV _ _ _ _ (.int 2)) (by walk_at "v" : TV _ _ _ _ (.int 0)) po_eqI (by rfl)) (by rfl)) ?_
      refine tk_ifF (TB.cast (tb_cmp (by walk_at "v" : TV _ _ _ _ (.int 2)) (by walk_at "v" : TV _ _ _ _ (.int 1)) po_eqI (by rfl)) (by rfl)) ?_
      refine tk_cons (ts_expr (te_own_m MT (by walk_at "k") hc ((by walk_at "v" : TV _ _ _ _ (tabT C w t)).to ⟨_, rfl, by rfl, (by walk_at "va" : TVA _ _ _ _ [.str k]).to ⟨w, t, k, rfl, kl, w2, ka, ?_⟩⟩) (fun env => ⟨_, rfl⟩)))
      repeat refine tk_nil ?_
      exact tk_ret (by walk_at "v") q
end
end Y

/-! ### values that are no rows -/
namespace Y
open PySem PySem.Spec L2 SX Z
theorem strip_all {l : List Nat} (h : l.all isLet = true) : (Txt.stripChars (S l) (S LET)).cps.toList = [] := by
  have hc : ∀ k, (S LET).cps.contains k = isLet k := fun k => by
    rw [← mem_LET]
    simp [S]
  have hg : l.all (S LET).cps.contains = true := by
    rw [List.all_eq_true] at h ⊢
    intro k hk
    rw [hc]
    exact h k hk
  have tw : ∀ l : List Nat, l.all (S LET).cps.contains = true → l.takeWhile (S LET).cps.contains = l := by
    intro l h
    induction l with
    | nil => rfl
    | cons a l ih =>
      rw [List.all_cons, Bool.and_eq_true] at h
      rw [List.takeWhile_cons, if_pos h.1, ih h.2]
  unfold Txt.stripChars Txt.stripBy
  have lo : stripLo (S LET).cps.contains true (S l) = l.length := by
    unfold stripLo
    rw [if_pos rfl, show (S l).cps.toList = l by simp [S], tw l hg]
  have hi : stripHi (S LET).cps.contains true (S l) l.length = l.length := by
    unfold stripHi
    rw [if_pos rfl, show (S l).cps.toList = l by simp [S], List.drop_length, S_len]
    simp
  split
  · next e =>
    unfold stripSame at e
    rw [lo] at e
    rw [Bool.and_eq_true] at e
    have : l.length = 0 := by simpa using e.1
    rw [List.eq_nil_of_length_eq_zero this]
  · unfold stripped
    rw [lo, hi]
    simp [Builtin.Str.strSub]
/-- no row, of bounded size -/
def NoRow (d : DT) : Prop := isRowV d = false ∧ Gd 2 5000 d ∧ ∀ σ : Sg, (tyT σ d).isSome = true
theorem all_small {l : List Nat} (h : l.all isLet = true) : l.all (fun k => decide (k < 1114112)) = true := by
  rw [List.all_eq_true] at h ⊢
  intro k hk
  have := h k hk
  unfold isLet at this
  simp only [Bool.and_eq_true, decide_eq_true_eq] at this
  exact decide_eq_true (by omega)
theorem gd_row {n w : Nat} {r : List Nat} (h : rowOk r) (hw : 200 ≤ w) : Gd n w (.str r) := .str (Nat.le_trans h.2.1 hw) (all_small h.2.2)
theorem gd_ones {n : Nat} {r : List Nat} (h : rowOk r) : GdA n 400 (ones r) := by
  have := GdA.all (n := n) (w := 1) (xs := ones r) fun x hx => by
    obtain ⟨k, hk, rfl⟩ := List.mem_map.mp hx
    refine .str (by simp) ?_
    have := all_small h.2.2
    rw [List.all_eq_true] at this ⊢
    intro z hz
    rw [List.mem_singleton.mp hz]
    exact this k hk
  refine this.le ?_
  unfold ones
  rw [List.length_map]
  have := h.2.1
  omega
theorem gd_str {n w : Nat} {s : List Nat} (h : Gd n w (.str s)) : s.length ≤ w := by
  cases h with
  | str h _ => exact h
def spNoRows : TSpec := fun ds σ Q E => ∃ (p : Addr) (r : List Nat) (N : Nat) (xs : List DT), ds = [.ref p, .str r] ∧ σ p = some (.lst xs) ∧ reelOk N xs ∧ N < 2 ^ 59 ∧ rowOk r ∧
  ∀ (ys : List DT) xs', ys.length ≤ 40 → (∀ y ∈ ys, NoRow y) → reelOk (N + 1) xs' → Q (.lst ys) (su σ p (.lst xs'))
/-- the signs that are put in -/
def signs0 : List (List Nat) := [sOf "A", sOf "Z", sOf "0", sOf "-", sOf " ", sOf "\n", sOf "`", sOf "{", sOf "_", sOf ""]
section
variable {P : Program} {w : World} {F : PySem.W.Frag} {mg : Str → Option Value} {base : Heap}
theorem ok_no_rows (L : Dt P w F mg base "_law_draw" ["_law_reel_here", "_law_many"] 1 spDraw) (Fn : DfN F mg "_law_no_rows" ["_law_reel_here", "_law_text"] s_law_no_rows) (b1 : mg "len" = none) (b2 : mg "list" = none) (b3 : mg "tuple" = none) :
    Dt P w F mg base "_law_no_rows" ["_law_reel_here", "_law_text"] 2 spNoRows := by
  refine dt_ok Fn sc_law_no_rows (fun ds σ Q E h => ?_) (fun ds σ Q E Wx h => ?_)
  · obtain ⟨p, r, N, xs, rfl, _⟩ := h
    rfl
  · obtain ⟨p, r, N, xs, rfl, hσ, ok, hN, hr, q⟩ := h
    obtain ⟨r1, r2, r3⟩ := id hr
    rw [← su_self hσ]
    refine tk_set (i := 2) (by walk_at "sto") (te_draw L (by walk_at "k") (by rfl) (by walk_at "va") ok (by omega) (by omega) (by omega) fun at1 xs1 a0 a1 ok1 => ?_)
    obtain ⟨j, rfl⟩ : ∃ j : Nat, at1 = j := ⟨at1.toNat, by omega⟩
    have hj : j < r.length := by omega
    have s1 : ∀ s ∈ signs0, s.length ≤ 1 ∧ s.all (fun k => decide (k < 1114112)) = true := by decide +kernel
    let put : List Nat → List Nat := fun s => r.take j ++ s ++ r.drop (j + 1)
    have pl : ∀ s, (put s).length = r.length - 1 + s.length := fun s => by
      show (r.take j ++ s ++ r.drop (j + 1)).length = _
      rw [List.length_append, List.length_append, List.length_take, List.length_drop]
      omega
    refine tk_setLcM (α := List Nat) (l := signs0) (g := DT.str) (i := 3) (own := [("_law_sign", 4)]) (t := .nm 4) (f := fun s => .str (put s)) (by rfl) (by rfl) (by rfl) (by decide +kernel) (by exact Nat.le_of_ble_eq_true rfl) (by walk_at "tgt") (by walk_at "blk") (by decide) (tvi_lst (TV.castL (by walk_at "v") (by rfl))) (by decide) (fun _ _ => rfl) (fun s hs => ?_) ?_
    · have := (s1 s hs).1
      exact tv_bin (tv_bin (TV.castS (by walk_at "v") (Z.cut_to (j := j) rfl)) (by walk_at "v") (po_addS (by rw [List.length_take]; omega))) (TV.castS (by walk_at "v") (Z.cut_from (i := j + 1) (by omega))) (po_addS (by rw [List.length_append, List.length_take, List.length_drop]; omega))
    let L1 : List (List Nat) := if 1 < r.length then signs0.map put else (signs0.map put).take 9 ++ [[]]
    have l1 : ∀ s ∈ L1, s.length ≤ 201 ∧ s.all (fun k => decide (k < 1114112)) = true := by
      have h0 : ∀ s ∈ signs0.map put, s.length ≤ 201 ∧ s.all (fun k => decide (k < 1114112)) = true := fun s hs => by
        obtain ⟨z, hz, rfl⟩ := List.mem_map.mp hs
        obtain ⟨z1, z2⟩ := s1 z hz
        refine ⟨by rw [pl]; omega, ?_⟩
        have sm := all_small r3
        show (r.take j ++ z ++ r.drop (j + 1)).all _ = true
        rw [List.all_append, List.all_append, z2, Bool.and_true, Bool.and_eq_true, List.all_eq_true, List.all_eq_true]
        rw [List.all_eq_true] at sm
        exact ⟨fun k hk => sm k (List.mem_of_mem_take hk), fun k hk => sm k (List.mem_of_mem_drop hk)⟩
      intro s hs
      by_cases c : 1 < r.length
      · simp only [L1, if_pos c] at hs
        exact h0 s hs
      · simp only [L1, if_neg c] at hs
        rcases List.mem_append.mp hs with h | h
        · exact h0 s (List.mem_of_mem_take h)
        · rw [List.mem_singleton.mp h]
          exact ⟨by decide, rfl⟩
    have l2 : L1.length ≤ 10 := by
      by_cases c : 1 < r.length
      · simp only [L1, if_pos c, List.length_map]
        decide
      · simp only [L1, if_neg c, List.length_append, List.length_take, List.length_map, List.length_singleton]
        decide
    refine tk_setV (i := 3) (d := .lst (L1.map DT.str)) (by walk_at "sto") ?_ ?_
    · refine TV.cast (tv_if (x := .lst ((signs0.map put).map DT.str)) (y := .lst (((signs0.map put).take 9 ++ [[]]).map DT.str)) (by walk_at "t") (fun _ => TV.castL (by walk_at "v") (by rw [List.map_map]; rfl)) (fun _ => TV.castL (by walk_at "v") ?_)) ?_
      · rw [Y.cut_to (j := 9) (y := 9) rfl, List.map_append, List.map_take, List.map_map]
        rfl
      · by_cases c : 1 < r.length
        · have c' : (1 : Int) < r.length := by omega
          simp only [L1, if_pos c, decide_eq_true c', if_true]
        · have c' : ¬ (1 : Int) < r.length := by omega
          simp only [L1, if_neg c, decide_eq_false c', Bool.false_eq_true, if_false]
    let tt : List Nat → Bool := fun s => !decide ((Txt.stripChars (S s) (S (sOf "abcdefghijklmnopqrstuvwxyz"))).cps.toList = sOf "") || decide (s = sOf "")
    refine tk_setLcV (α := List Nat) (l := L1) (g := DT.str) (i := 3) (own := [("_law_one", 5)]) (t := .nm 5) (tt := tt) (f := DT.str) (by rfl) (by rfl) (by rfl) (by decide +kernel) (by exact Nat.le_of_ble_eq_true rfl) (by walk_at "tgt") (by walk_at "blk") (by decide) (tvi_lst (by walk_at "v")) (by omega) (fun _ _ => rfl) (fun s hs => ⟨?_, fun _ => by walk_at "v"⟩) ?_
    · have := (l1 s hs).1
      exact tb_W (tbw_or (tb_cmp (tv_meth PySem.F.plainAttrs_str PySem.F.slot_str_strip rfl (by walk_at "v") ty_str (by walk_at "va") (pm_strip (by omega))) (by walk_at "v") (by walk_at "o2") (by rfl)) (fun _ => by walk_at "tw"))
    have e4000 : (sOf "a").length = 1 := by decide +kernel
    have eb : (sOf "b").length = 1 := by decide +kernel
    have es : (sOf " ").length = 1 := by decide +kernel
    have en : (sOf "\n").length = 1 := by decide +kernel
    have t200 : (201 - (r.length : Int)).toNat = 201 - r.length := by omega
    refine tk_setV (i := 3) (by walk_at "sto") (tv_bin (by walk_at "v") (tv_lst (tva_cons (tv_bin (by walk_at "v") (tv_bin (by walk_at "v") (by walk_at "v") (po_mulS (by omega) (by omega) (by rw [eb, t200]; omega))) (po_addS (by rw [t200, repl_len, eb]; omega))) (tva_cons (tv_bin (by walk_at "v") (by walk_at "v") (po_mulS (by decide) (by decide) (by rw [e4000]; decide))) (tva_cons (tv_bin (by walk_at "v") (by walk_at "v") (po_addS (by omega))) (tva_cons (tv_bin (by walk_at "v") (by walk_at "v") (po_addS (by omega)))
      (tva_cons (by walk_at "v") (tva_cons (by walk_at "v") (tva_cons (tv_callTy (by rfl) (by walk_at "as") (by walk_at "bt") (by walk_at "va") (pf_listS (by omega))) tva_nil)))))))) (po_cat lsX_l lsX_l (by rw [List.length_map]; have := List.length_filter_le tt L1; simp; omega))) ?_
    refine tk_ret (tv_bin (by walk_at "v") (tv_lst (tva_cons (by walk_at "v") (tva_cons (by walk_at "v") (tva_cons (by walk_at "v") (tva_cons (by walk_at "v") (tva_cons (by walk_at "v") (tva_cons (by walk_at "v") (tva_cons (by walk_at "v") (tva_cons tv_dict0 (tva_cons (tv_dict1S (by walk_at "v") (by walk_at "v")) (tva_cons (tv_callTy (by rfl) (by walk_at "as") (by walk_at "bt") (by walk_at "va") (pf_tupS (by omega))) (tva_cons (by walk_at "v") tva_nil)))))))))))) (po_cat lsX_l lsX_l (by rw [List.length_append, List.length_map]; have := List.length_filter_le tt L1; simp; omega))) ?_
    refine q _ _ ?_ ?_ ok1
    · rw [List.length_append, List.length_append, List.length_map]
      have := List.length_filter_le tt L1
      simp
      omega
    · intro y hy
      rcases List.mem_append.mp hy with hy | hy
      · rcases List.mem_append.mp hy with hy | hy
        · obtain ⟨s, hs, rfl⟩ := List.mem_map.mp hy
          obtain ⟨hs, ht⟩ := List.mem_filter.mp hs
          obtain ⟨b1, b2⟩ := l1 s hs
          refine ⟨?_, .str (by omega) b2, fun _ => rfl⟩
          show (decide ((1 : Int) ≤ s.length) && decide ((s.length : Int) ≤ 200) && s.all isLet) = false
          cases ha : s.all isLet with
          | false => rw [Bool.and_false]
          | true =>
            simp only [tt, sOf_LET, strip_all ha] at ht
            have : s = [] := by
              simpa [show sOf "" = [] from rfl] using ht
            rw [this]
            rfl
        · simp only [List.mem_cons, List.not_mem_nil, or_false] at hy
          rcases hy with rfl | rfl | rfl | rfl | rfl | rfl | rfl
          · rw [t200]
            have ln : (r ++ (List.replicate (201 - r.length) (sOf "b")).flatten).length = 201 := by
              rw [List.length_append, repl_len, eb]
              omega
            refine ⟨?_, .str (by omega) ?_, fun _ => rfl⟩
            · show (decide _ && decide (((r ++ (List.replicate (201 - r.length) (sOf "b")).flatten).length : Int) ≤ 200) && _) = false
              rw [ln]
              simp
            · rw [List.all_append, all_small r3, Bool.true_and, List.all_eq_true]
              intro k hk
              obtain ⟨z, hz, hk⟩ := List.mem_flatten.mp hk
              rw [(List.mem_replicate.mp hz).2] at hk
              have : (sOf "b").all (fun k => decide (k < 1114112)) = true := by decide +kernel
              exact List.all_eq_true.mp this k hk
          · have ln : ((List.replicate (4000 : Int).toNat (sOf "a")).flatten).length = 4000 := by
              rw [repl_len, e4000]
              decide
            refine ⟨?_, .str (by rw [ln]; decide) (repl_all _ _ _ (by decide +kernel)), fun _ => rfl⟩
            unfold isRowV isLettersV
            simp only [ln]
            rw [show decide (((4000 : Nat) : Int) ≤ 200) = false by decide, Bool.and_false, Bool.false_and]
          · refine ⟨?_, .str (by rw [List.length_append, es]; omega) (by rw [List.all_append, all_small r3]; decide +kernel), fun _ => rfl⟩
            show (_ && (r ++ sOf " ").all isLet) = false
            rw [List.all_append, show (sOf " ").all isLet = false by decide +kernel]
            simp
          · refine ⟨?_, .str (by rw [List.length_append, en]; omega) (by rw [List.all_append, all_small r3]; decide +kernel), fun _ => rfl⟩
            show (_ && (sOf "\n" ++ r).all isLet) = false
            rw [List.all_append, show (sOf "\n").all isLet = false by decide +kernel]
            simp
          · exact ⟨rfl, .lst (.cons (w2 := 0) (gd_row (w := 200) hr (by decide)) .nil (by decide)), fun _ => rfl⟩
          · exact ⟨rfl, .tup (.cons (w2 := 0) (gd_row (w := 200) hr (by decide)) .nil (by decide)), fun _ => rfl⟩
          · exact ⟨rfl, .lst ((gd_ones hr).le (by decide)), fun _ => rfl⟩
      · simp only [List.mem_cons, List.not_mem_nil, or_false] at hy
        rcases hy with rfl | rfl | rfl | rfl | rfl | rfl | rfl | rfl | rfl | rfl | rfl
        · exact ⟨rfl, .non, fun _ => rfl⟩
        · exact ⟨rfl, .int (by decide) (by decide), fun _ => rfl⟩
        · exact ⟨rfl, .int (by decide) (by decide), fun _ => rfl⟩
        · exact ⟨rfl, .bl true, fun _ => rfl⟩
        · exact ⟨rfl, .str (by decide) rfl, fun _ => rfl⟩
        · exact ⟨rfl, .lst .nil, fun _ => rfl⟩
        · exact ⟨rfl, .tup .nil, fun _ => rfl⟩
        · exact ⟨rfl, .dct .nil, fun _ => rfl⟩
        · exact ⟨rfl, .dct (.cons (w0 := 200) (w1 := 203) (w2 := 0) (gd_row hr (by decide)) (.int (by decide) (by decide)) .nil (by decide)), fun _ => rfl⟩
        · exact ⟨rfl, .tup ((gd_ones hr).le (by decide)), fun _ => rfl⟩
        · exact ⟨rfl, .int (by decide +kernel) (by decide), fun _ => rfl⟩
end
end Y

/-! ### values that are no widths -/
namespace Y
open PySem PySem.Spec L2 SX Z
theorem isInt_big {i lo hi : Int} (h : hi < i) : isIntV (.int i) lo hi = false := by
  show (decide (lo ≤ i) && decide (i ≤ hi)) = false
  rw [decide_eq_false (by omega : ¬ i ≤ hi), Bool.and_false]
theorem isInt_sm {i lo hi : Int} (h : i < lo) : isIntV (.int i) lo hi = false := by
  show (decide (lo ≤ i) && decide (i ≤ hi)) = false
  rw [decide_eq_false (by omega : ¬ lo ≤ i), Bool.false_and]
def noW (n : Nat) : List DT := [.int 0, .int (-1), .int (-2), .int (0 - (n : Int)), .int (-12), .int (min 12 (n : Int) + 1), .int 13, .int ((n : Int) + 13), .int 200, .non, .bl true, .bl false] ++ [.str (sOf "1"), .lst [.int 1], .tup [.int 1], .dct [], .int (10 ^ (59 : Int).toNat), .int (0 - 10 ^ (59 : Int).toNat)]
theorem noW_len (n : Nat) : (noW n).length = 18 := rfl
theorem noW_ok {n : Nat} (l1 : 1 ≤ n) (l2 : n ≤ 200) : ∀ y ∈ noW n, bi y = true ∧ isIntV y 1 (min 12 (n : Int)) = false := by
  intro y hy
  rcases List.mem_append.mp hy with hy | hy
  · simp only [List.mem_cons, List.not_mem_nil, or_false] at hy
    have no : ∀ i : Int, (i < 1 ∨ min 12 (n : Int) < i) → isIntV (.int i) 1 (min 12 (n : Int)) = false := fun i h => by
      show (decide ((1 : Int) ≤ i) && decide (i ≤ min 12 (n : Int))) = false
      rcases h with h | h
      · rw [decide_eq_false (by omega : ¬ (1 : Int) ≤ i)]; rfl
      · rw [decide_eq_false (by omega : ¬ i ≤ min 12 (n : Int)), Bool.and_false]
    rcases hy with rfl | rfl | rfl | rfl | rfl | rfl | rfl | rfl | rfl | rfl | rfl | rfl <;> refine ⟨rfl, ?_⟩ <;> first | rfl | exact no _ (by omega)
  · simp only [List.mem_cons, List.not_mem_nil, or_false] at hy
    rcases hy with rfl | rfl | rfl | rfl | rfl | rfl <;> refine ⟨rfl, ?_⟩
    · rfl
    · rfl
    · rfl
    · rfl
    · exact isInt_big (Int.lt_of_le_of_lt (Int.min_le_left _ _) (by decide +kernel))
    · exact isInt_sm (by decide +kernel)
def spNoWidths : TSpec := fun ds σ Q E => ∃ r : List Nat, ds = [.str r] ∧ 1 ≤ r.length ∧ r.length ≤ 200 ∧ Q (.lst (noW r.length)) σ
section
variable {P : Program} {w : World} {F : PySem.W.Frag} {mg : Str → Option Value} {base : Heap}
set_option maxHeartbeats 1000000 in
theorem ok_no_widths (b1 : mg "len" = none) (b2 : mg "min" = none) (Fn : DfN F mg "_law_no_widths" ["_law_text"] s_law_no_widths) : Dt P w F mg base "_law_no_widths" ["_law_text"] 1 spNoWidths := by
  refine dt_ok Fn sc_law_no_widths (fun ds σ Q E h => ?_) (fun ds σ Q E Wx h => ?_)
  · obtain ⟨r, rfl, _⟩ := h
    rfl
  · obtain ⟨r, rfl, l1, l2, q⟩ := h
    refine tk_setV (i := 1) (by walk_at "sto") (tv_lst (tva_cons (by walk_at "v" : TV _ _ _ _ (.int 0)) (tva_cons (tv_un (by walk_at "v" : TV _ _ _ _ (.int 1)) po_negI) (tva_cons (tv_un (by walk_at "v" : TV _ _ _ _ (.int 2)) po_negI) (tva_cons (tv_bin (by walk_at "v" : TV _ _ _ _ (.int 0)) (tv_callB (by rfl) (by walk_at "as") (by walk_at "bt") (by walk_at "va" : TVA _ _ _ _ [.str r]) (pf_lenS (by omega))) po_subI) (tva_cons (tv_un (by walk_at "v" : TV _ _ _ _ (.int 12)) po_negI) (tva_cons (tv_bin (tv_callB (by rfl) (by walk_at "as") (by walk_at "bt") (tva_cons (by walk_at "v" : TV _ _ _ _ (.int 12)) (tva_cons (tv_callB (by rfl) (by walk_at "as") (by walk_at "bt") (by walk_at "va" : TVA _ _ _ _ [.str r]) (pf_lenS (by omega))) tva_nil)) pf_min2) (by walk_at "v" : TV _ _ _ _ (.int 1)) po_addI) (tva_cons (by walk_at "v" : TV _ _ _ _ (.int 13)) (tva_cons (tv_bin (tv_callB (by rfl) (by walk_at "as") (by walk_at "bt") (by walk_at "va" : TVA _ _ _ _ [.str r]) (pf_lenS (by omega))) (by walk_at "v" : TV _ _ _ _ (.int 13)) po_addI) (tva_cons (by walk_at "v" : TV _ _ _ _ (.int 200)) (tva_cons (by walk_at "v" : TV _ _ _ _ .non) (tva_cons (by walk_at "v" : TV _ _ _ _ (.bl true)) (tva_cons (by walk_at "v" : TV _ _ _ _ (.bl false)) tva_nil))))))))))))) ?_
    exact tk_ret (tv_bin (by walk_at "v" : TV _ _ _ _ (.lst [.int 0, .int (-1), .int (-2), .int (0 - (r.length : Int)), .int (-12), .int (min 12 (r.length : Int) + 1), .int 13, .int ((r.length : Int) + 13), .int 200, .non, .bl true, .bl false])) (tv_lst (tva_cons (by walk_at "v" : TV _ _ _ _ (.str (sOf "1"))) (tva_cons (tv_lst (tva_cons (by walk_at "v" : TV _ _ _ _ (.int 1)) tva_nil)) (tva_cons (tv_tup (tva_cons (by walk_at "v" : TV _ _ _ _ (.int 1)) tva_nil)) (tva_cons tv_dict0 (tva_cons (tv_bin (by walk_at "v" : TV _ _ _ _ (.int 10)) (by walk_at "v" : TV _ _ _ _ (.int 59)) (po_powI (by walk_at "pow"))) (tva_cons (tv_bin (by walk_at "v" : TV _ _ _ _ (.int 0)) (tv_bin (by walk_at "v" : TV _ _ _ _ (.int 10)) (by walk_at "v" : TV _ _ _ _ (.int 59)) (po_powI (by walk_at "pow"))) po_subI) tva_nil))))))) (po_cat lsX_l lsX_l (by exact Nat.le_of_ble_eq_true rfl))) q
end
end Y

/-! ### k06: values that are no tallies, plainly -/
namespace Y
open PySem PySem.Spec L2 SX Z
def rpt (c : List Nat) (w : Nat) : List Nat := (List.replicate w c).flatten
theorem rpt_len {c : List Nat} {w : Nat} (h : c.length = 1) : (rpt c w).length = w := by
  unfold rpt
  rw [repl_len, h, Nat.mul_one]
theorem rpt_let {c : List Nat} {w : Nat} (h : c.all isLet = true) : (rpt c w).all isLet = true := repl_all _ _ _ h
theorem rpt_ne {a b : Nat} {w : Nat} (h : a ≠ b) (w1 : 1 ≤ w) : rpt [a] w ≠ rpt [b] w := by
  obtain ⟨n, rfl⟩ : ∃ n, w = n + 1 := ⟨w - 1, by omega⟩
  unfold rpt
  rw [List.replicate_succ, List.replicate_succ, List.flatten_cons, List.flatten_cons]
  intro e
  injection e with e _
  exact h e
def gA (w : Nat) : List Nat := rpt (sOf "a") w
def gN (w : Nat) : List Nat := rpt (sOf "n") w
abbrev El := Sum (Sum DK OKey) DT
def els (w : Nat) : List El := [.inl (.inl (.inr (gA w ++ sOf "a"))), .inl (.inl (.inr ((gA w).drop 1))), .inl (.inl (.inr ((gA w).drop 1 ++ sOf "A"))), .inl (.inl (.inr ((gA w).drop 1 ++ sOf "\n"))), .inl (.inl (.inr (sOf "`" ++ (gA w).drop 1))), .inl (.inl (.inl 1)), .inl (.inr .non), .inl (.inr (.one (gA w))), .inl (.inr (.bl true))]
def ebs (w : Nat) : List DT := [.int 0, .int (-1), .non, .bl true, .bl false, .str (sOf "1"), .lst [.int 1], .int (10 ^ (59 : Int).toNat), .int (201 - (w : Int)), .dct []]
def elK : El → DT
  | .inl (.inl k) => dk k
  | .inl (.inr k) => okT k
  | .inr d => d
def elP (N : List Nat) : El → DT
  | .inl (.inl k) => .tup [dk k, .int 1]
  | .inl (.inr k) => .tup [okT k, .int 1]
  | .inr d => .tup [.str N, d]
def okR (A : CS) : List (OKey × Int) := A.map fun p => (.txt p.1, p.2)
def elD (N : List Nat) (A B : CS) : El → DT
  | .inl (.inl k) => .dct (cD A ++ (k, .int 1) :: cD B)
  | .inl (.inr k) => .dco (okR A ++ (k, 1) :: okR B)
  | .inr d => .dct (cD A ++ (.inr N, d) :: cD B)
/-- the entries that stay -/
structure RestOk (w : Nat) (N : List Nat) (A B : CS) : Prop where
  nd : ((A ++ B).map (·.1)).Nodup
  out : N ∉ (A ++ B).map (·.1)
  key : ∀ p ∈ A ++ B, p.1.length = w ∧ p.1.all isLet = true
  pos : ∀ p ∈ A ++ B, 1 ≤ p.2
  top : ∀ p ∈ A ++ B, p.2 ≤ 200
  len : (A ++ B).length ≤ 201
  ne : A ++ B ≠ []
theorem isL_len {s : List Nat} {w : Nat} (h : s.length ≠ w) : isLettersV (.str s) w w = false := by
  show (decide ((w : Int) ≤ s.length) && decide ((s.length : Int) ≤ w) && s.all isLet) = false
  by_cases c : (w : Int) ≤ s.length
  · rw [decide_eq_false (by omega : ¬ (s.length : Int) ≤ w), Bool.and_false, Bool.false_and]
  · rw [decide_eq_false c, Bool.false_and, Bool.false_and]
theorem isL_bad {s : List Nat} {w : Nat} (h : s.all isLet = false) : isLettersV (.str s) w w = false := by
  show (decide ((w : Int) ≤ s.length) && decide ((s.length : Int) ≤ w) && s.all isLet) = false
  rw [h, Bool.and_false]
theorem isL_ok {s : List Nat} {w : Nat} (h : s.length = w) (h2 : s.all isLet = true) : isLettersV (.str s) w w = true := by
  unfold isLettersV
  simp only [h, h2, Bool.and_true, Bool.and_eq_true, decide_eq_true_eq]
  omega
theorem gA_drop {w : Nat} (w1 : 1 ≤ w) : ((gA w).drop 1).length = w - 1 := by
  rw [List.length_drop, gA, rpt_len (by decide +kernel)]
theorem els_key {w : Nat} (w1 : 1 ≤ w) : ∀ e ∈ els w, (∃ k, e = .inl (.inl k) ∧ isLettersV (dk k) w w = false ∧ (∀ x, k = .inr x → x.length ≤ w + 1 ∧ x.all (fun k => decide (k < 1114112)) = true) ∧ ∀ i, k = .inl i → i = 1) ∨ (∃ k, e = .inl (.inr k) ∧ isLettersV (okT k) w w = false ∧ (∀ x, k ≠ .txt x) ∧ ∀ x, k = .one x → x = gA w) := by
  intro e he
  have la : (gA w).length = w := rpt_len (by decide +kernel)
  have aa : (gA w).all isLet = true := rpt_let (by decide +kernel)
  have ld := gA_drop w1
  have l1 : (sOf "a").length = 1 := by decide +kernel
  have l2 : (sOf "A").length = 1 := by decide +kernel
  have l3 : (sOf "\n").length = 1 := by decide +kernel
  have l4 : (sOf "`").length = 1 := by decide +kernel
  have sa : (gA w).all (fun k => decide (k < 1114112)) = true := repl_all _ _ _ (by decide +kernel)
  have sd : ((gA w).drop 1).all (fun k => decide (k < 1114112)) = true := by
    rw [List.all_eq_true] at sa ⊢
    exact fun k hk => sa k (List.mem_of_mem_drop hk)
  simp only [els, List.mem_cons, List.not_mem_nil, or_false] at he
  rcases he with rfl | rfl | rfl | rfl | rfl | rfl | rfl | rfl | rfl
  · exact .inl ⟨_, rfl, isL_len (by rw [List.length_append]; omega), (fun x e => by obtain rfl := Sum.inr.inj e; exact ⟨by rw [List.length_append]; omega, by rw [List.all_append, sa]; decide +kernel⟩), fun i e => nomatch e⟩
  · exact .inl ⟨_, rfl, isL_len (by omega), (fun x e => by obtain rfl := Sum.inr.inj e; exact ⟨by omega, sd⟩), fun i e => nomatch e⟩
  · exact .inl ⟨_, rfl, isL_bad (by rw [List.all_append, show (sOf "A").all isLet = false by decide +kernel, Bool.and_false]), (fun x e => by obtain rfl := Sum.inr.inj e; exact ⟨by rw [List.length_append]; omega, by rw [List.all_append, sd]; decide +kernel⟩), fun i e => nomatch e⟩
  · exact .inl ⟨_, rfl, isL_bad (by rw [List.all_append, show (sOf "\n").all isLet = false by decide +kernel, Bool.and_false]), (fun x e => by obtain rfl := Sum.inr.inj e; exact ⟨by rw [List.length_append]; omega, by rw [List.all_append, sd]; decide +kernel⟩), fun i e => nomatch e⟩
  · exact .inl ⟨_, rfl, isL_bad (by rw [List.all_append, show (sOf "`").all isLet = false by decide +kernel, Bool.false_and]), (fun x e => by obtain rfl := Sum.inr.inj e; exact ⟨by rw [List.length_append]; omega, by rw [List.all_append, sd]; decide +kernel⟩), fun i e => nomatch e⟩
  · exact .inl ⟨_, rfl, rfl, (fun x e => nomatch e), fun i e => (Sum.inl.inj e).symm⟩
  · exact .inr ⟨_, rfl, rfl, (fun x e => nomatch e), fun x e => nomatch e⟩
  · exact .inr ⟨_, rfl, rfl, (fun x e => nomatch e), fun x e => by injection e with e; exact e.symm⟩
  · exact .inr ⟨_, rfl, rfl, (fun x e => nomatch e), fun x e => nomatch e⟩
theorem all_bad {α : Type} {l : List α} {f : α → Bool} {a : α} (ha : a ∈ l) (h : f a = false) : (l.map f).all id = false := by
  rw [List.all_eq_false]
  exact ⟨f a, List.mem_map.mpr ⟨a, ha, rfl⟩, by rw [h]; exact Bool.false_ne_true⟩
theorem cD_mem {A : CS} {p : DK × DT} (h : p ∈ cD A) : ∃ q ∈ A, p = (.inr q.1, .int q.2) := by
  unfold cD iD cT at h
  rw [List.map_map] at h
  obtain ⟨q, hq, rfl⟩ := List.mem_map.mp h
  exact ⟨q, hq, rfl⟩
theorem cD_len (A : CS) : (cD A).length = A.length := by simp [cD, iD, cT]
theorem gdK_app {n a b : Nat} : ∀ {xs ys : List (DK × DT)}, GdK n a xs → GdK n b ys → GdK n (a + b) (xs ++ ys)
  | _, ys, .nil, h => by
    rw [List.nil_append]
    cases h with
    | nil => exact .nil
    | cons h0 h h2 e => exact .cons h0 h h2 (by omega)
  | _, _, .cons h0 h h2 e, t => .cons h0 h (gdK_app h2 t) (by omega)
theorem gdK_sm {w n : Nat} (hw : w ≤ 12) : ∀ (t : CS), (∀ p ∈ t, p.1.length = w ∧ p.1.all isLet = true) → (∀ p ∈ t, 1 ≤ p.2) → (∀ p ∈ t, p.2 ≤ 200) → GdK n (t.length * 22) (cD t)
  | [], _, _, _ => .nil
  | p :: t, hk, hp, ht => by
    obtain ⟨k1, k2⟩ := hk p List.mem_cons_self
    have p1 := hp p List.mem_cons_self
    have p2 := ht p List.mem_cons_self
    have ih := gdK_sm (n := n) hw t (fun q hq => hk q (List.mem_cons_of_mem _ hq)) (fun q hq => hp q (List.mem_cons_of_mem _ hq)) (fun q hq => ht q (List.mem_cons_of_mem _ hq))
    have ss : p.1.all (fun k => decide (k < 1114112)) = true := by
      rw [List.all_eq_true] at k2 ⊢
      intro k hk
      have := k2 k hk
      unfold isLet at this
      simp only [Bool.and_eq_true, decide_eq_true_eq] at this
      exact decide_eq_true (by omega)
    exact .cons (w0 := 12) (w1 := 8) (w2 := t.length * 22) (k := .inr p.1) (x := .int p.2) (Gd.str (by omega) ss) (.sml (by omega) (Nat.le_refl _)) ih (by rw [List.length_cons]; omega)
theorem gdK_one {n : Nat} {k : DK} {d : DT} (h0 : Gd n 20 (dk k)) (h : Gd n 210 d) : GdK n 232 [(k, d)] := .cons h0 h (.nil (w := 0)) (by decide)
theorem gdK_le {n a b : Nat} (h : a ≤ b) {xs : List (DK × DT)} (g : GdK n a xs) : GdK n b xs := by
  cases g with
  | nil => exact .nil
  | cons h0 h1 h2 e => exact .cons h0 h1 h2 (by omega)
theorem gd_big {w : Nat} {N : List Nat} {A B : CS} (hw : w ≤ 12) (r : RestOk w N A B) {k : DK} {d : DT} (h0 : Gd 1 20 (dk k)) (h : Gd 1 210 d) : Gd 2 5000 (.dct (cD A ++ (k, d) :: cD B)) := by
  have ga := gdK_sm (n := 1) hw A (fun p hp => r.key p (List.mem_append_left _ hp)) (fun p hp => r.pos p (List.mem_append_left _ hp)) (fun p hp => r.top p (List.mem_append_left _ hp))
  have gb := gdK_sm (n := 1) hw B (fun p hp => r.key p (List.mem_append_right _ hp)) (fun p hp => r.pos p (List.mem_append_right _ hp)) (fun p hp => r.top p (List.mem_append_right _ hp))
  have e : cD A ++ (k, d) :: cD B = cD A ++ ([(k, d)] ++ cD B) := rfl
  rw [e]
  have l := r.len
  rw [List.length_append] at l
  exact .dct (gdK_le (by omega) (gdK_app ga (gdK_app (gdK_one h0 h) gb)))
/-- .. and of other keys -/
def kvO (l : List (OKey × Int)) : List (PyData × PyData) := l.map fun p => (okPy p.1, .int p.2)
structure GdO (n w : Nat) (l : List (PyData × PyData)) : Prop where
  dep : PyData.depthKv l ≤ n
  wt : PyData.weightKv l ≤ w
  sh : PyData.showableKv l = true
  lv : PyData.leavesShortKv 63 l = true
theorem gdO_cons {n w w0 w1 w2 : Nat} {a b : PyData} {l : List (PyData × PyData)} (h0 : GdF n w0 a) (h1 : GdF n w1 b) (h2 : GdO n w2 l) (e : w0 + w1 + 2 + w2 ≤ w) : GdO n w ((a, b) :: l) := by
  obtain ⟨c1, c2, c3, c4⟩ := h0
  obtain ⟨a1, a2, a3, a4⟩ := h1
  obtain ⟨b1, b2, b3, b4⟩ := h2
  constructor
  · simp only [PyData.depthKv]
    exact Nat.max_le.mpr ⟨Nat.max_le.mpr ⟨c1, a1⟩, b1⟩
  · simp only [PyData.weightKv]
    omega
  · simp only [PyData.showableKv, a3, b3, c3, Bool.and_self]
  · simp only [PyData.leavesShortKv, a4, b4, c4, Bool.and_self]
theorem gdO_nil {n w : Nat} : GdO n w [] := ⟨Nat.zero_le _, Nat.zero_le _, rfl, rfl⟩
theorem gdO_sm {w n b : Nat} (hw : w ≤ 12) (l : List (PyData × PyData)) (gl : GdO n b l) : ∀ (t : CS), (∀ p ∈ t, p.1.length = w ∧ p.1.all isLet = true) → (∀ p ∈ t, 1 ≤ p.2) → (∀ p ∈ t, p.2 ≤ 200) → GdO n (t.length * 22 + b) (kvO (okR t) ++ l)
  | [], _, _, _ => by
    have : GdO n (0 * 22 + b) l := by rw [Nat.zero_mul, Nat.zero_add]; exact gl
    exact this
  | p :: t, hk, hp, ht => by
    obtain ⟨k1, k2⟩ := hk p List.mem_cons_self
    have p1 := hp p List.mem_cons_self
    have p2 := ht p List.mem_cons_self
    have ih := gdO_sm hw l gl t (fun q hq => hk q (List.mem_cons_of_mem _ hq)) (fun q hq => hp q (List.mem_cons_of_mem _ hq)) (fun q hq => ht q (List.mem_cons_of_mem _ hq))
    have ss : p.1.all (fun k => decide (k < 1114112)) = true := by
      rw [List.all_eq_true] at k2 ⊢
      intro k hk
      have := k2 k hk
      unfold isLet at this
      simp only [Bool.and_eq_true, decide_eq_true_eq] at this
      exact decide_eq_true (by omega)
    exact gdO_cons (w0 := 12) (w1 := 8) (gdF_str (by omega) ss) (gdF_ints (show p.2.natAbs < 256 by omega) (Nat.le_refl _)) ih (by rw [List.length_cons]; omega)
theorem gd_odd {w : Nat} {N : List Nat} {A B : CS} (hw : w ≤ 12) (r : RestOk w N A B) {k : OKey} (h0 : GdF 1 20 (okPy k)) : Gd 2 5000 (.dco (okR A ++ (k, 1) :: okR B)) := by
  have gb := gdO_sm (n := 1) (b := 0) hw [] gdO_nil B (fun p hp => r.key p (List.mem_append_right _ hp)) (fun p hp => r.pos p (List.mem_append_right _ hp)) (fun p hp => r.top p (List.mem_append_right _ hp))
  rw [List.append_nil] at gb
  have gk : GdO 1 (B.length * 22 + 0 + 30) ((okPy k, .int 1) :: kvO (okR B)) := gdO_cons (w0 := 20) (w1 := 8) h0 (gdF_ints (by decide) (Nat.le_refl _)) gb (by omega)
  have ga := gdO_sm hw _ gk A (fun p hp => r.key p (List.mem_append_left _ hp)) (fun p hp => r.pos p (List.mem_append_left _ hp)) (fun p hp => r.top p (List.mem_append_left _ hp))
  have e : kvO (okR A) ++ (okPy k, .int 1) :: kvO (okR B) = kvO (okR A ++ (k, 1) :: okR B) := by simp [kvO]
  rw [e] at ga
  obtain ⟨g1, g2, g3, g4⟩ := ga
  have l := r.len
  rw [List.length_append] at l
  exact .dco ⟨Nat.succ_le_succ g1, Nat.le_trans g2 (by omega), g3, g4⟩
/-- the dicts with one odd entry are no tallies, and small -/
theorem elD_ok {w : Nat} {A B : CS} (w1 : 1 ≤ w) (w2 : w ≤ 12) (r : RestOk w (gN w) A B) : ∀ e ∈ els w ++ (ebs w).map Sum.inr, NoCnt w (elD (gN w) A B e) ∧ Gd 2 5000 (elD (gN w) A B e) := by
  intro e he
  have l := r.len
  rw [List.length_append] at l
  have ln : (gN w).length = w := rpt_len (by decide +kernel)
  have an : (gN w).all isLet = true := rpt_let (by decide +kernel)
  have sn : (gN w).all (fun k => decide (k < 1114112)) = true := repl_all _ _ _ (by decide +kernel)
  have mem : ∀ {k : DK} {d : DT} {p : DK × DT}, p ∈ cD A ++ (k, d) :: cD B → p = (k, d) ∨ ∃ q ∈ A ++ B, p = (.inr q.1, .int q.2) := fun {k d p} hp => by
    rcases List.mem_append.mp hp with hp | hp
    · obtain ⟨q, hq, e⟩ := cD_mem hp
      exact .inr ⟨q, List.mem_append_left _ hq, e⟩
    · rcases List.mem_cons.mp hp with e | hp
      · exact .inl e
      · obtain ⟨q, hq, e⟩ := cD_mem hp
        exact .inr ⟨q, List.mem_append_right _ hq, e⟩
  have len : ∀ {k : DK} {d : DT}, (cD A ++ (k, d) :: cD B).length ≤ 1000 := fun {k d} => by
    rw [List.length_append, List.length_cons, cD_len, cD_len]
    omega
  rcases List.mem_append.mp he with he | he
  · rcases els_key w1 e he with ⟨k, rfl, h1, h2, h3⟩ | ⟨k, rfl, h1, h2, h3⟩
    · refine ⟨.key len (fun p hp x ex => ?_) (all_bad (a := (k, .int 1)) (by simp) h1), gd_big w2 r ?_ (.sml (by decide) (by decide))⟩
      · rcases mem hp with e | ⟨q, hq, e⟩
        · subst e
          have := (h2 x ex).1
          omega
        · subst e
          obtain rfl := Sum.inr.inj ex
          have := (r.key q hq).1
          omega
      · cases k with
        | inl i =>
          obtain rfl := h3 i rfl
          exact .sml (by decide) (by decide)
        | inr x =>
          obtain ⟨b1, b2⟩ := h2 x rfl
          exact .str (by omega) b2
    · refine ⟨.odd ?_ (fun p hp x ex => ?_) (all_bad (a := (k, 1)) (by simp) h1), gd_odd w2 r ?_⟩
      · rw [List.length_append, List.length_cons]
        unfold okR
        rw [List.length_map, List.length_map]
        omega
      · have inR : ∀ (C : CS), (∀ q ∈ C, q ∈ A ++ B) → p ∈ okR C → x.length ≤ 1000 := fun C hC hp => by
          obtain ⟨q, hq, rfl⟩ := List.mem_map.mp hp
          injection ex with ex
          have := (r.key q (hC q hq)).1
          rw [← ex]
          omega
        rcases List.mem_append.mp hp with hp | hp
        · exact inR A (fun q hq => List.mem_append_left _ hq) hp
        · rcases List.mem_cons.mp hp with e | hp
          · subst e
            exact absurd ex (h2 x)
          · exact inR B (fun q hq => List.mem_append_right _ hq) hp
      · cases k with
        | txt x => exact absurd rfl (h2 x)
        | non => exact ⟨Nat.zero_le _, Nat.zero_le _, rfl, rfl⟩
        | bl b => exact ⟨Nat.zero_le _, Nat.zero_le _, rfl, rfl⟩
        | one x =>
          obtain rfl := h3 x rfl
          have la : (gA w).length = w := rpt_len (by decide +kernel)
          have sa : (gA w).all (fun k => decide (k < 1114112)) = true := repl_all _ _ _ (by decide +kernel)
          obtain ⟨g1, g2, g3, g4⟩ := gdF_str (n := 0) (w := 12) (s := gA w) (by omega) sa
          have one : ∀ d : PyData, d.depth ≤ 0 → d.weight ≤ 12 → d.showable = true → d.leavesShort 63 = true → GdF 1 20 (.tuple [d]) := fun d a1 a2 a3 a4 => by
            constructor
            · simp only [PyData.depth, PyData.depthAll]
              omega
            · simp only [PyData.weight, PyData.weightAll]
              omega
            · simp only [PyData.showable, PyData.showableAll, a3, Bool.and_self]
            · simp only [PyData.leavesShort, PyData.leavesShortAll, a4, Bool.and_self]
          exact one _ g1 g2 g3 g4
  · obtain ⟨d, hd, rfl⟩ := List.mem_map.mp he
    have gk : Gd 1 20 (dk (.inr (gN w))) := .str (by omega) sn
    have ndk : ((cD A ++ (.inr (gN w), d) :: cD B).map (·.1)).Nodup := by
      have e : (cD A ++ (.inr (gN w), d) :: cD B).map (·.1) = (A.map (·.1) ++ gN w :: B.map (·.1)).map (Sum.inr : List Nat → DK) := by
        rw [List.map_append, List.map_cons, cD_keys, cD_keys, List.map_append, List.map_cons]
      have hn : (A.map (·.1) ++ gN w :: B.map (·.1)).Nodup := by
        have o := r.out
        have n := r.nd
        rw [List.map_append] at o n
        rw [List.mem_append, not_or] at o
        rw [List.nodup_append] at n ⊢
        refine ⟨n.1, List.nodup_cons.mpr ⟨o.2, n.2.1⟩, fun a ha b hb => ?_⟩
        rcases List.mem_cons.mp hb with e | hb
        · exact fun z => o.1 (by rw [← e, ← z]; exact ha)
        · exact n.2.2 a ha b hb
      rw [e]
      exact List.pairwise_map.mpr (hn.imp fun {a b} h z => h (Sum.inr.inj z))
    have allk : ((cD A ++ (.inr (gN w), d) :: cD B).map fun p => isLettersV (dk p.1) w w).all id = true := by
      rw [List.all_eq_true]
      intro b hb
      obtain ⟨p, hp, rfl⟩ := List.mem_map.mp hb
      rcases mem hp with e | ⟨q, hq, e⟩
      · subst e
        exact isL_ok ln an
      · subst e
        obtain ⟨k1, k2⟩ := r.key q hq
        exact isL_ok k1 k2
    have ks : ∀ p ∈ cD A ++ (.inr (gN w), d) :: cD B, ∀ x, p.1 = .inr x → x.length ≤ 1000 := fun p hp x ex => by
      rcases mem hp with e | ⟨q, hq, e⟩
      · subst e
        obtain rfl := Sum.inr.inj ex
        omega
      · subst e
        obtain rfl := Sum.inr.inj ex
        have := (r.key q hq).1
        omega
    have val : bi d = true → posV d = false → Gd 1 210 d → NoCnt w (elD (gN w) A B (.inr d)) ∧ Gd 2 5000 (elD (gN w) A B (.inr d)) := fun hb hp g => by
      refine ⟨.val len ndk ks allk (fun p hp => ?_) (all_bad (a := ((.inr (gN w), d) : DK × DT)) (by simp) hp), gd_big w2 r gk g⟩
      rcases mem hp with e | ⟨q, hq, e⟩
      · subst e
        exact hb
      · subst e
        rfl
    have big : ∀ v : Int, 201 - (w : Int) ≤ v → Gd 1 210 (.int v) → NoCnt w (elD (gN w) A B (.inr (.int v))) ∧ Gd 2 5000 (elD (gN w) A B (.inr (.int v))) := fun v hv g => by
      have e : cD A ++ ((.inr (gN w), .int v) : DK × DT) :: cD B = cD (A ++ (gN w, v) :: B) := by simp [cD, iD, cT]
      refine ⟨?_, gd_big w2 r gk g⟩
      show NoCnt w (.dct (cD A ++ (.inr (gN w), .int v) :: cD B))
      have ndk2 : ((cD (A ++ (gN w, v) :: B)).map (·.1)).Nodup := by
        have o := r.out
        have n := r.nd
        rw [List.map_append] at o n
        rw [List.mem_append, not_or] at o
        rw [cD_keys]
        have hn : ((A ++ (gN w, v) :: B).map (·.1)).Nodup := by
          rw [List.map_append, List.map_cons, List.nodup_append]
          rw [List.nodup_append] at n
          refine ⟨n.1, List.nodup_cons.mpr ⟨o.2, n.2.1⟩, fun a ha b hb => ?_⟩
          rcases List.mem_cons.mp hb with e | hb
          · exact fun z => o.1 (by have e2 : b = gN w := e; rw [← e2, ← z]; exact ha)
          · exact n.2.2 a ha b hb
        exact List.pairwise_map.mpr (hn.imp fun {a b} h z => h (Sum.inr.inj z))
      have nd2 : ((A ++ (gN w, v) :: B).map (·.1)).Nodup := by
        rw [cD_keys] at ndk2
        exact (List.pairwise_map.mp ndk2).imp fun {a b} h z => h (congrArg _ z)
      have mem2 : ∀ p ∈ A ++ (gN w, v) :: B, p = (gN w, v) ∨ p ∈ A ++ B := fun p hp => by
        rcases List.mem_append.mp hp with hp | hp
        · exact .inr (List.mem_append_left _ hp)
        · rcases List.mem_cons.mp hp with e | hp
          · exact .inl e
          · exact .inr (List.mem_append_right _ hp)
      have v1 : 1 ≤ v := by omega
      rw [e]
      refine .big (by rw [List.length_append, List.length_cons]; omega) nd2 (fun p hp => ?_) (fun p hp => ?_) ?_
      · rcases mem2 p hp with e | hp
        · subst e
          exact ⟨ln, an⟩
        · exact r.key p hp
      · rcases mem2 p hp with e | hp
        · subst e
          exact v1
        · exact r.pos p hp
      · have s1 : 1 ≤ csum (A ++ B) := by
          have gen : ∀ l : CS, l ≠ [] → (∀ p ∈ l, 1 ≤ p.2) → 1 ≤ csum l := by
            intro l
            induction l with
            | nil => intro h _; exact absurd rfl h
            | cons q l ih =>
              intro _ hp
              have q1 := hp q List.mem_cons_self
              unfold csum at ih ⊢
              rw [List.map_cons, List.sum_cons]
              by_cases c : l = []
              · subst c
                simp
                exact q1
              · have := ih c fun p hp' => hp p (List.mem_cons_of_mem _ hp')
                omega
          exact gen _ r.ne r.pos
        have s2 : csum (A ++ (gN w, v) :: B) = csum (A ++ B) + v := by
          unfold csum
          simp only [List.map_append, List.map_cons, List.sum_append, List.sum_cons]
          omega
        rw [s2]
        omega
    simp only [ebs, List.mem_cons, List.not_mem_nil, or_false] at hd
    rcases hd with rfl | rfl | rfl | rfl | rfl | rfl | rfl | rfl | rfl | rfl
    · exact val rfl rfl (.sml (by decide) (by decide))
    · exact val rfl rfl (.sml (by decide) (by decide))
    · exact val rfl rfl .non
    · exact val rfl rfl (.bl _)
    · exact val rfl rfl (.bl _)
    · exact val rfl rfl (.str (by decide +kernel) (by decide +kernel))
    · exact val rfl rfl (.lst (.cons (w1 := 8) (w2 := 0) (.sml (by decide) (by decide)) .nil (by decide)))
    · exact big _ (Int.le_trans (by omega : 201 - (w : Int) ≤ 201) (by decide +kernel)) (.int (by decide +kernel) (by decide))
    · exact big _ (Int.le_refl _) (.sml (by omega) (by decide))
    · exact val rfl rfl (.dct .nil)
end Y

/-! ### k06: _law_no_counts -/
namespace Y
open PySem PySem.Spec L2 SX Z
theorem let_small {l : List Nat} (h : l.all isLet = true) : l.all (fun k => decide (k < 1114112)) = true := by
  rw [List.all_eq_true] at h ⊢
  intro k hk
  have := h k hk
  unfold isLet at this
  simp only [Bool.and_eq_true, decide_eq_true_eq] at this
  exact decide_eq_true (by omega)
def pr6 (p : List Nat × Int) : DT := .tup [.str p.1, .int p.2]
def gM (w : Nat) : List Nat := rpt (sOf "m") w
/-- the entries that stay, of a tally -/
def rest6 (w : Nat) (t : CS) : CS := if (t.filter fun p => !decide (p.1 = gN w)).isEmpty = true then [(gM w, 1)] else t.filter fun p => !decide (p.1 = gN w)
theorem gM_gN {w : Nat} (w1 : 1 ≤ w) : gM w ≠ gN w := by
  have e1 : sOf "m" = [109] := by decide +kernel
  have e2 : sOf "n" = [110] := by decide +kernel
  unfold gM gN
  rw [e1, e2]
  exact rpt_ne (by decide) w1
theorem rest6_ok {w : Nat} {t : CS} (w1 : 1 ≤ w) (ct : CSok w t) (j : Nat) : RestOk w (gN w) ((rest6 w t).take j) ((rest6 w t).drop j) := by
  have l1 := ct.len
  have l2 := ct.sum
  have top : ∀ p ∈ t, p.2 ≤ 200 := by
    have gen : ∀ l : CS, (∀ p ∈ l, 1 ≤ p.2) → 0 ≤ csum l ∧ ∀ p ∈ l, p.2 ≤ csum l := by
      intro l
      induction l with
      | nil => intro _; exact ⟨Int.le_refl _, fun p hp => nomatch hp⟩
      | cons q l ih =>
        intro hp
        obtain ⟨i1, i2⟩ := ih fun p h => hp p (List.mem_cons_of_mem _ h)
        have q1 := hp q List.mem_cons_self
        unfold csum at i1 i2 ⊢
        rw [List.map_cons, List.sum_cons]
        refine ⟨by omega, fun p h => ?_⟩
        rcases List.mem_cons.mp h with e | h
        · subst e
          omega
        · have := i2 p h
          omega
    intro p hp
    have := (gen t ct.pos).2 p hp
    omega
  have e : (rest6 w t).take j ++ (rest6 w t).drop j = rest6 w t := List.take_append_drop _ _
  have lm : (gM w).length = w := rpt_len (by decide +kernel)
  have am : (gM w).all isLet = true := rpt_let (by decide +kernel)
  unfold rest6 at e ⊢
  by_cases c : (t.filter fun p => !decide (p.1 = gN w)).isEmpty = true
  · simp only [if_pos c] at e ⊢
    constructor
    · rw [e]
      simp
    · rw [e]
      simp only [List.map_cons, List.map_nil, List.mem_singleton]
      exact fun z => gM_gN w1 z.symm
    · rw [e]
      intro p hp
      rw [List.mem_singleton.mp hp]
      exact ⟨lm, am⟩
    · rw [e]
      intro p hp
      rw [List.mem_singleton.mp hp]
      exact Int.le_refl _
    · rw [e]
      intro p hp
      rw [List.mem_singleton.mp hp]
      show (1 : Int) ≤ 200
      decide
    · rw [e]
      simp
    · rw [e]
      simp
  · simp only [if_neg c] at e ⊢
    constructor
    · rw [e]
      exact ct.nd.sublist (List.filter_sublist.map _)
    · rw [e]
      intro z
      obtain ⟨p, hp, ep⟩ := List.mem_map.mp z
      have := (List.mem_filter.mp hp).2
      rw [ep] at this
      simp at this
    · rw [e]
      exact fun p hp => ct.key p (List.mem_filter.mp hp).1
    · rw [e]
      exact fun p hp => ct.pos p (List.mem_filter.mp hp).1
    · rw [e]
      exact fun p hp => top p (List.mem_filter.mp hp).1
    · rw [e]
      have := List.length_filter_le (fun p : List Nat × Int => !decide (p.1 = gN w)) t
      omega
    · rw [e]
      exact fun z => c (by rw [z]; rfl)
theorem nd_ins {w : Nat} {N : List Nat} {A B : CS} (r : RestOk w N A B) {k : DK} {d : DT} (hk : ∀ x, k = .inr x → x ∉ (A ++ B).map (·.1)) : ((cD A ++ (k, d) :: cD B).map (·.1)).Nodup := by
  have n := r.nd
  rw [List.map_append] at n
  rw [List.nodup_append] at n
  have inj : ∀ {l : List (List Nat)}, l.Nodup → (l.map (Sum.inr : List Nat → DK)).Nodup := fun {l} h => List.pairwise_map.mpr (h.imp fun {a b} h z => h (Sum.inr.inj z))
  have no : ∀ {C : CS}, (∀ p ∈ C, p ∈ A ++ B) → k ∉ (C.map (·.1)).map (Sum.inr : List Nat → DK) := fun {C} hC z => by
    obtain ⟨x, hx, ex⟩ := List.mem_map.mp z
    obtain ⟨p, hp, ep⟩ := List.mem_map.mp hx
    exact hk x ex.symm (by rw [← ep]; exact List.mem_map.mpr ⟨p, hC p hp, rfl⟩)
  rw [List.map_append, List.map_cons, cD_keys, cD_keys, List.nodup_append]
  refine ⟨inj n.1, List.nodup_cons.mpr ⟨no fun p hp => List.mem_append_right _ hp, inj n.2.1⟩, fun a ha b hb => ?_⟩
  rcases List.mem_cons.mp hb with e | hb
  · exact fun z => no (C := A) (fun p hp => List.mem_append_left _ hp) (by have e2 : b = k := e; rw [← e2, ← z]; exact ha)
  · obtain ⟨x, hx, rfl⟩ := List.mem_map.mp ha
    obtain ⟨y, hy, rfl⟩ := List.mem_map.mp hb
    exact fun z => n.2.2 x hx y hy (Sum.inr.inj z)
theorem nd_insO {w : Nat} {N : List Nat} {A B : CS} (r : RestOk w N A B) {k : OKey} (hk : ∀ x, k ≠ .txt x) : ((okR A ++ (k, 1) :: okR B).map (·.1)).Nodup := by
  have n := r.nd
  rw [List.map_append] at n
  rw [List.nodup_append] at n
  have ek : ∀ C : CS, (okR C).map (·.1) = (C.map (·.1)).map OKey.txt := fun C => by unfold okR; rw [List.map_map, List.map_map]; rfl
  have inj : ∀ {l : List (List Nat)}, l.Nodup → (l.map OKey.txt).Nodup := fun {l} h => List.pairwise_map.mpr (h.imp fun {a b} h z => h (by injection z))
  have no : ∀ {l : List (List Nat)}, k ∉ l.map OKey.txt := fun {l} z => by
    obtain ⟨x, _, ex⟩ := List.mem_map.mp z
    exact hk x ex.symm
  rw [List.map_append, List.map_cons, ek, ek, List.nodup_append]
  refine ⟨inj n.1, List.nodup_cons.mpr ⟨no, inj n.2.1⟩, fun a ha b hb => ?_⟩
  rcases List.mem_cons.mp hb with e | hb
  · exact fun z => no (l := A.map (·.1)) (by rw [show k = a from (z.trans e).symm]; exact ha)
  · obtain ⟨x, hx, rfl⟩ := List.mem_map.mp ha
    obtain ⟨y, hy, rfl⟩ := List.mem_map.mp hb
    exact fun z => n.2.2 x hx y hy (by injection z)
theorem ins_eq (A B : CS) (k : DK) (d : DT) : A.map pr6 ++ [.tup [dk k, d]] ++ B.map pr6 = (cD A ++ (k, d) :: cD B).map fun p => .tup [dk p.1, p.2] := by
  have e : pr6 = fun p => .tup [.str p.1, .int p.2] := rfl
  rw [e]
  simp [cD, iD, cT, dk, Function.comp_def]
theorem ins_eqO (A B : CS) (k : OKey) : A.map pr6 ++ [.tup [okT k, .int 1]] ++ B.map pr6 = (okR A ++ (k, 1) :: okR B).map fun p => .tup [okT p.1, .int p.2] := by
  have e : pr6 = fun p => .tup [.str p.1, .int p.2] := rfl
  rw [e]
  simp [okR, okT, Function.comp_def]
def spNoCounts : TSpec := fun ds σ Q E => ∃ (p : Addr) (w : Nat) (t : CS) (N : Nat) (xs : List DT), ds = [.ref p, .int (w : Int), .dct (cD t)] ∧ 1 ≤ w ∧ w ≤ 12 ∧ CSok w t ∧ σ p = some (.lst xs) ∧ reelOk N xs ∧ N < 2 ^ 59 ∧
  ∀ (ys : List DT) xs', ys.length ≤ 40 → (∀ y ∈ ys, NoCnt w y ∧ Gd 2 5000 y) → reelOk (N + 1) xs' → Q (.lst ys) (su σ p (.lst xs'))
section
variable {P : Program} {w : World} {F : PySem.W.Frag} {mg : Str → Option Value} {base : Heap}
set_option maxHeartbeats 4000000 in
theorem ok_no_counts (sm : ∃ ob, base.get? sysModules = some ob) (L : Dt P w F mg base "_law_draw" ["_law_reel_here", "_law_many"] 1 spDraw) (Fn : DfN F mg "_law_no_counts" ["_law_reel_here", "_law_wide", "_law_counts"] s_law_no_counts) (b1 : mg "len" = none) (b2 : mg "list" = none) (b3 : mg "dict" = none) :
    Dt P w F mg base "_law_no_counts" ["_law_reel_here", "_law_wide", "_law_counts"] 2 spNoCounts := by
  refine dt_ok Fn sc_law_no_counts (fun ds σ Q E h => ?_) (fun ds σ Q E Wx h => ?_)
  · obtain ⟨p, w, t, N, xs, rfl, _⟩ := h
    rfl
  · obtain ⟨p, w, t, N, xs, rfl, w1, w2, ct, hσ, ok, hN, q⟩ := h
    have l1 := ct.len
    have l2 := ct.sum
    rw [← su_self hσ]
    have la : (gA w).length = w := rpt_len (by decide +kernel)
    have aa : (gA w).all isLet = true := rpt_let (by decide +kernel)
    have ld := gA_drop w1
    have x1 : (sOf "a").length = 1 := by decide +kernel
    have x2 : (sOf "A").length = 1 := by decide +kernel
    have x3 : (sOf "\n").length = 1 := by decide +kernel
    have x4 : (sOf "`").length = 1 := by decide +kernel
    have x5 : (sOf "n").length = 1 := by decide +kernel
    have x6 : (sOf "m").length = 1 := by decide +kernel
    have tw : ((w : Nat) : Int).toNat = w := rfl
    have ei : (cD t).map (fun kv => DT.tup [dk kv.1, kv.2]) = t.map pr6 := by
      have e : pr6 = fun p => .tup [.str p.1, .int p.2] := rfl
      rw [e]
      simp [cD, iD, cT, dk, Function.comp_def]
    refine tk_setV (i := 3) (d := .lst (t.map pr6)) (by walk_at "sto") (TV.castL (tv_listIt (by rfl) (by walk_at "as") (by walk_at "v" : TV _ _ _ _ (.dct (cD t))) diT_l) ei) ?_
    refine tk_cons (ts_un2 (i := 4) (j := 5) (by walk_at "tgt") (by walk_at "tgt") (te_tup (ta_cons (te_draw (m := (t.length : Int) + 1) L (by walk_at "k") (by rfl) (tva_cons (by walk_at "v" : TV _ _ _ _ (.ref p)) (tva_cons (tv_bin (TV.castI (tv_callB (by rfl) (by walk_at "as") (by walk_at "bt") (by walk_at "va" : TVA _ _ _ _ [.lst (t.map pr6)]) (pf_lenL lsT_l)) (by rw [List.length_map])) (by walk_at "v" : TV _ _ _ _ (.int 1)) po_addI) tva_nil)) ok (by omega) (by omega) (by omega) fun at1 xs1 a0 a1 ok1 => ?_))) (.inl (by rfl)))
    refine ta_v (TV.castS (j := gA w) (tv_bin (by walk_at "v" : TV _ _ _ _ (.str (sOf "a"))) (by walk_at "v" : TV _ _ _ _ (.int (w : Int))) (po_mulS (by omega) (by omega) (by rw [x1, tw]; omega))) rfl) (ta_nil ⟨Nat.le_of_ble_eq_true rfl, _, _, rfl, ?_⟩)
    obtain ⟨j, rfl⟩ : ∃ j : Nat, at1 = j := ⟨at1.toNat, by omega⟩
    refine tk_setV (i := 6) (d := .lst ((els w).map elK)) (by walk_at "sto") (TV.castL (tv_lst (tva_cons (tv_bin (by walk_at "v" : TV _ _ _ _ (.str (gA w))) (by walk_at "v" : TV _ _ _ _ (.str (sOf "a"))) (po_addS (by omega)))
      (tva_cons (TV.castS (tv_slice (by walk_at "v" : TV _ _ _ _ (.str (gA w))) (to_some (by walk_at "v" : TV _ _ _ _ (.int 1))) to_none (pl_str (by omega))) (Z.cut_from (i := 1) rfl)) (tva_cons (tv_bin (TV.castS (tv_slice (by walk_at "v" : TV _ _ _ _ (.str (gA w))) (to_some (by walk_at "v" : TV _ _ _ _ (.int 1))) to_none (pl_str (by omega))) (Z.cut_from (i := 1) rfl)) (by walk_at "v" : TV _ _ _ _ (.str (sOf "A"))) (po_addS (by omega)))
      (tva_cons (tv_bin (TV.castS (tv_slice (by walk_at "v" : TV _ _ _ _ (.str (gA w))) (to_some (by walk_at "v" : TV _ _ _ _ (.int 1))) to_none (pl_str (by omega))) (Z.cut_from (i := 1) rfl)) (by walk_at "v" : TV _ _ _ _ (.str (sOf "\n"))) (po_addS (by omega))) (tva_cons (tv_bin (by walk_at "v" : TV _ _ _ _ (.str (sOf "`"))) (TV.castS (tv_slice (by walk_at "v" : TV _ _ _ _ (.str (gA w))) (to_some (by walk_at "v" : TV _ _ _ _ (.int 1))) to_none (pl_str (by omega))) (Z.cut_from (i := 1) rfl)) (po_addS (by omega)))
      (tva_cons (by walk_at "v" : TV _ _ _ _ (.int 1)) (tva_cons (by walk_at "v" : TV _ _ _ _ .non) (tva_cons (tv_tup (tva_cons (by walk_at "v" : TV _ _ _ _ (.str (gA w))) tva_nil)) (tva_cons (by walk_at "v" : TV _ _ _ _ (.bl true)) tva_nil)))))))))) rfl) ?_
    refine tk_setLcM (α := El) (l := els w) (g := elK) (i := 7) (own := [("_law_key", 10)]) (t := .nm 10) (f := elP (gN w)) (by rfl) (by rfl) (by rfl) (by decide +kernel) (by exact Nat.le_of_ble_eq_true rfl) (by walk_at "tgt") (by walk_at "blk") (by decide) (tvi_lst (by walk_at "v" : TV _ _ _ _ (.lst ((els w).map elK)))) (Nat.le_of_ble_eq_true rfl) (fun _ _ => rfl) (fun e he => ?_) ?_
    · have ee : elP (gN w) e = .tup [elK e, .int 1] := by
        rcases els_key w1 e he with ⟨k, rfl, _⟩ | ⟨k, rfl, _⟩ <;> rfl
      rw [ee]
      exact tv_tup (tva_cons (by walk_at "v" : TV _ _ _ _ (elK e)) (tva_cons (by walk_at "v" : TV _ _ _ _ (.int 1)) tva_nil))
    refine tk_setV (i := 7) (d := .lst ((els w ++ (ebs w).map Sum.inr).map (elP (gN w)))) (by walk_at "sto") (TV.castL (tv_bin (by walk_at "v" : TV _ _ _ _ (.lst ((els w).map (elP (gN w))))) (tv_lcM (α := DT) (l := ebs w) (g := id) (f := fun d => .tup [.str (gN w), d]) (own := [("_law_many", 11)]) (t := .nm 11) (by walk_at "tgt") (by walk_at "blk") (by decide)
      (tvi_lst (TV.castL (tv_lst (tva_cons (by walk_at "v" : TV _ _ _ _ (.int 0)) (tva_cons (tv_un (by walk_at "v" : TV _ _ _ _ (.int 1)) po_negI) (tva_cons (by walk_at "v" : TV _ _ _ _ .non) (tva_cons (by walk_at "v" : TV _ _ _ _ (.bl true)) (tva_cons (by walk_at "v" : TV _ _ _ _ (.bl false)) (tva_cons (by walk_at "v" : TV _ _ _ _ (.str (sOf "1"))) (tva_cons (tv_lst (tva_cons (by walk_at "v" : TV _ _ _ _ (.int 1)) tva_nil)) (tva_cons (tv_bin (by walk_at "v" : TV _ _ _ _ (.int 10)) (by walk_at "v" : TV _ _ _ _ (.int 59)) (po_powI (by walk_at "pow")))
        (tva_cons (tv_bin (by walk_at "v" : TV _ _ _ _ (.int 201)) (by walk_at "v" : TV _ _ _ _ (.int (w : Int))) po_subI) (tva_cons tv_dict0 tva_nil))))))))))) (List.map_id _).symm)) (Nat.le_of_ble_eq_true rfl) (fun _ _ => rfl)
      (fun d hd => tv_tup (tva_cons (TV.castS (j := gN w) (tv_bin (by walk_at "v" : TV _ _ _ _ (.str (sOf "n"))) (by walk_at "v" : TV _ _ _ _ (.int (w : Int))) (po_mulS (by omega) (by omega) (by rw [x5, tw]; omega))) rfl) (tva_cons (by walk_at "v" : TV _ _ _ _ d) tva_nil)))) (po_cat lsX_l lsX_l (Nat.le_of_ble_eq_true rfl))) (by rw [List.map_append, List.map_map]; rfl)) ?_
    refine tk_cons (ts_setLcC (i := 8) (by walk_at "sto") (by rfl) (te_v (tv_lc (α := List Nat × Int) (l := t) (g := pr6) (own := [("_law_key", 10), ("_law_many", 11)]) (t := .tp [10, 11]) (tt := fun p => !decide (p.1 = gN w)) (f := pr6) (by walk_at "tgs") (by walk_at "blk") (by decide) (tvi_lst (by walk_at "v" : TV _ _ _ _ (.lst (t.map pr6)))) (by omega) (fun _ _ => rfl)
      (fun a ha => ⟨tb_cmp (by walk_at "v" : TV _ _ _ _ (.str a.1)) (TV.castS (j := gN w) (tv_bin (by walk_at "v" : TV _ _ _ _ (.str (sOf "n"))) (by walk_at "v" : TV _ _ _ _ (.int (w : Int))) (po_mulS (by omega) (by omega) (by rw [x5, tw]; omega))) rfl) po_neS (by rfl), fun _ => tv_tup (tva_cons (by walk_at "v" : TV _ _ _ _ (.str a.1)) (tva_cons (by walk_at "v" : TV _ _ _ _ (.int a.2)) tva_nil))⟩)) ?_))
    have sh : Sh 60 (.lst ((t.filter fun p => !decide (p.1 = gN w)).map pr6)) := fun x hx => by
      obtain ⟨a, ha, rfl⟩ := List.mem_map.mp hx
      have k2 := (ct.key a (List.mem_filter.mp ha).1).2
      intro y hy
      simp only [List.mem_cons, List.not_mem_nil, or_false] at hy
      rcases hy with rfl | rfl
      · exact let_small k2
      · exact trivial
    refine tk_setV (i := 8) (d := .lst ((rest6 w t).map pr6)) (by walk_at "sto") (TV.cast (tv_if (x := .lst ((t.filter fun p => !decide (p.1 = gN w)).map pr6)) (y := .lst [pr6 (gM w, 1)]) (tb_cmp (by walk_at "v" : TV _ _ _ _ (.lst ((t.filter fun p => !decide (p.1 = gN w)).map pr6))) (tv_lst tva_nil) (po_neNil sm sh) (by rfl)) (fun _ => by walk_at "v")
      (fun _ => tv_lst (tva_cons (tv_tup (tva_cons (TV.castS (j := gM w) (tv_bin (by walk_at "v" : TV _ _ _ _ (.str (sOf "m"))) (by walk_at "v" : TV _ _ _ _ (.int (w : Int))) (po_mulS (by omega) (by omega) (by rw [x6, tw]; omega))) rfl) (tva_cons (by walk_at "v" : TV _ _ _ _ (.int 1)) tva_nil))) tva_nil))) (by
        unfold rest6
        cases c : (t.filter fun p => !decide (p.1 = gN w)) with
        | nil => rfl
        | cons a l => rfl)) ?_
    have ro := rest6_ok w1 ct j
    have lr := ro.len
    rw [List.take_append_drop] at lr
    have od := elD_ok w1 w2 ro
    refine tk_setLcM (α := El) (l := els w ++ (ebs w).map Sum.inr) (g := elP (gN w)) (i := 9) (own := [("_law_pair", 12)]) (t := .nm 12) (f := elD (gN w) ((rest6 w t).take j) ((rest6 w t).drop j)) (by rfl) (by rfl) (by rfl) (by decide +kernel) (by exact Nat.le_of_ble_eq_true rfl) (by walk_at "tgt") (by walk_at "blk") (by decide) (tvi_lst (by walk_at "v" : TV _ _ _ _ (.lst ((els w ++ (ebs w).map Sum.inr).map (elP (gN w)))))) (Nat.le_of_ble_eq_true rfl) (fun _ _ => rfl) (fun e he => ?_) ?_
    · have lj : ((rest6 w t).map pr6).length ≤ 201 := by rw [List.length_map]; exact lr
      have args : ∀ {c : Ct} {ρ : EnvT} {σ : Sg} {E1 E2 E3 : Expr} {pos1 pos2 : Pos}, TV c E1 ρ σ (.lst (((rest6 w t).map pr6).take j)) → TV c E2 ρ σ (.lst [elP (gN w) e]) → TV c E3 ρ σ (.lst (((rest6 w t).map pr6).drop j)) → TV c (.BinOp (.BinOp E1 .Add E2 pos1) .Add E3 pos2) ρ σ (.lst (((rest6 w t).take j).map pr6 ++ [elP (gN w) e] ++ ((rest6 w t).drop j).map pr6)) := fun {c ρ σ E1 E2 E3 pos1 pos2} h1 h2 h3 => by
        have := tv_bin (pos := pos2) (tv_bin (pos := pos1) h1 h2 (po_cat lsX_l lsX_l (by have := List.length_take_le j ((rest6 w t).map pr6); simp only [List.length_singleton]; omega))) h3 (po_cat lsX_l lsX_l (by
          have := List.length_take_le j ((rest6 w t).map pr6)
          rw [List.length_append, List.length_singleton, List.length_drop]
          omega))
        rwa [← List.map_take, ← List.map_drop] at this
      rcases List.mem_append.mp he with he | he
      · rcases els_key w1 e he with ⟨k, rfl, h1, h2, h3⟩ | ⟨k, rfl, h1, h2, h3⟩
        · refine tv_dictP (by rfl) (by walk_at "as") (TV.castL (args (TV.castL (by walk_at "v") (Y.cut_to (j := j) rfl)) (tv_lst (tva_cons (by walk_at "v" : TV _ _ _ _ (elP (gN w) (.inl (.inl k)))) tva_nil)) (TV.castL (by walk_at "v") (Y.cut_from (i := j) rfl))) (ins_eq _ _ k (.int 1))) lsT_l (nd_ins ro fun x ex z => ?_)
          obtain ⟨a, ha, ea⟩ := List.mem_map.mp z
          obtain ⟨k1, k2⟩ := ro.key a ha
          rw [ea] at k1 k2
          subst ex
          rw [show isLettersV (dk (.inr x)) w w = true from isL_ok k1 k2] at h1
          cases h1
        · exact tv_dictO (by rfl) (by walk_at "as") (TV.castL (args (TV.castL (by walk_at "v") (Y.cut_to (j := j) rfl)) (tv_lst (tva_cons (by walk_at "v" : TV _ _ _ _ (elP (gN w) (.inl (.inr k)))) tva_nil)) (TV.castL (by walk_at "v") (Y.cut_from (i := j) rfl))) (ins_eqO _ _ k)) lsT_l (nd_insO ro h2)
      · obtain ⟨d, hd, rfl⟩ := List.mem_map.mp he
        exact tv_dictP (by rfl) (by walk_at "as") (TV.castL (args (TV.castL (by walk_at "v") (Y.cut_to (j := j) rfl)) (tv_lst (tva_cons (by walk_at "v" : TV _ _ _ _ (elP (gN w) (.inr d))) tva_nil)) (TV.castL (by walk_at "v") (Y.cut_from (i := j) rfl))) (ins_eq _ _ (.inr (gN w)) d)) lsT_l (nd_ins ro fun x ex z => ro.out (by rw [Sum.inr.inj ex]; exact z))
    refine tk_ret (tv_bin (by walk_at "v" : TV _ _ _ _ (.lst ((els w ++ (ebs w).map Sum.inr).map (elD (gN w) ((rest6 w t).take j) ((rest6 w t).drop j))))) (tv_lst (tva_cons (by walk_at "v" : TV _ _ _ _ .non) (tva_cons (by walk_at "v" : TV _ _ _ _ (.int 0)) (tva_cons (by walk_at "v" : TV _ _ _ _ (.str (sOf ""))) (tva_cons (by walk_at "v" : TV _ _ _ _ (.str (gA w))) (tva_cons (tv_lst tva_nil) (tva_cons (tv_tup tva_nil) (tva_cons (tv_lst (tva_cons (tv_tup (tva_cons (by walk_at "v" : TV _ _ _ _ (.str (gA w))) (tva_cons (by walk_at "v" : TV _ _ _ _ (.int 1)) tva_nil))) tva_nil))
      (tva_cons (TV.castL (tv_callTy (by rfl) (by walk_at "as") (by walk_at "bt") (by walk_at "va" : TVA _ _ _ _ [.dct (cD t)]) (pf_listD diT_l)) (cD_walk t)) (tva_cons (tv_dict1S (by walk_at "v" : TV _ _ _ _ (.str (gA w))) (tv_bin (by walk_at "v" : TV _ _ _ _ (.int 202)) (by walk_at "v" : TV _ _ _ _ (.int (w : Int))) po_subI)) (tva_cons (tv_dict1S (by walk_at "v" : TV _ _ _ _ (.str (gA w))) (tv_bin (by walk_at "v" : TV _ _ _ _ (.int 10)) (by walk_at "v" : TV _ _ _ _ (.int 39)) (po_powI (by walk_at "pow")))) tva_nil))))))))))) (po_cat lsX_l lsX_l (Nat.le_of_ble_eq_true rfl))) ?_
    refine q _ _ (Nat.le_of_ble_eq_true rfl) (fun y hy => ?_) ok1
    have sa : (gA w).all (fun k => decide (k < 1114112)) = true := let_small aa
    have gd1 : ∀ {n b : Nat}, 20 ≤ b → Gd n b (.str (gA w)) := fun hb => .str (by omega) sa
    rcases List.mem_append.mp hy with hy | hy
    · obtain ⟨e, he, rfl⟩ := List.mem_map.mp hy
      exact od e he
    · have big : ∀ v : Int, 202 - (w : Int) ≤ v → NoCnt w (.dct (cD [(gA w, v)])) := fun v hv => by
        refine .big (Nat.le_of_ble_eq_true rfl) (by simp) (fun p hp => ?_) (fun p hp => ?_) ?_
        · rw [List.mem_singleton.mp hp]
          exact ⟨la, aa⟩
        · rw [List.mem_singleton.mp hp]
          show 1 ≤ v
          omega
        · show 201 < csum [(gA w, v)] + (w : Int)
          simp only [csum, List.map_cons, List.map_nil, List.sum_cons, List.sum_nil]
          omega
      simp only [List.mem_cons, List.not_mem_nil, or_false] at hy
      rcases hy with rfl | rfl | rfl | rfl | rfl | rfl | rfl | rfl | rfl | rfl
      · exact ⟨.no fun _ => ⟨_, rfl, by decide +kernel⟩, .non⟩
      · exact ⟨.no fun _ => ⟨_, rfl, by decide +kernel⟩, .sml (by decide) (by decide)⟩
      · exact ⟨.no fun _ => ⟨_, rfl, by decide +kernel⟩, .str (by decide) rfl⟩
      · exact ⟨.no fun _ => ⟨_, rfl, by decide +kernel⟩, gd1 (by decide)⟩
      · exact ⟨.no fun _ => ⟨_, rfl, by decide +kernel⟩, .lst .nil⟩
      · exact ⟨.no fun _ => ⟨_, rfl, by decide +kernel⟩, .tup .nil⟩
      · exact ⟨.no fun _ => ⟨_, rfl, by decide +kernel⟩, .lst (.cons (w1 := 100) (w2 := 0) (.tup (.cons (w1 := 20) (w2 := 20) (gd1 (by decide)) (.cons (w1 := 8) (w2 := 0) (.sml (by decide) (by decide)) .nil (by decide)) (by decide))) .nil (by decide))⟩
      · refine ⟨.no fun _ => ⟨_, rfl, by decide +kernel⟩, .lst ((GdA.all (w := 12) fun y hy => ?_).le (by rw [List.length_map]; omega))⟩
        obtain ⟨a, ha, rfl⟩ := List.mem_map.mp hy
        obtain ⟨k1, k2⟩ := ct.key a ha
        exact .str (by omega) (let_small k2)
      · exact ⟨big _ (Int.le_refl _), .dct (gdK_le (by decide) (gdK_one (gd1 (by decide)) (.sml (by omega) (by decide))))⟩
      · exact ⟨big _ (Int.le_trans (by omega : 202 - (w : Int) ≤ 202) (by decide +kernel)), .dct (gdK_le (by decide) (gdK_one (gd1 (by decide)) (.int (by decide +kernel) (by decide))))⟩
end
end Y

/-! ### k06: a dict beside a text -/
namespace PySem.W
open PySem PySem.Calls PyProof.Rows Builtin
open _root_.PySem.AutoSeq1 (wpAny_loadPart')
theorem str_ne_dict6 (z : Str) (u : Tok) (l : Addr) (c : Value) (dd : Option Addr) (es : Array DictEntry) (n : Nat) (sl : Array (Option Value)) : Meets (Builtin.«str.__ne__» ⟨[.str z u, .ref l], []⟩) (fun _ R s => s.heap.get? l = some { cls := c, dict := dd, data := .dict es n, slots := sl } ∧ R (.ok (.ret .notImplemented)) s) :=
  .of_wp fun prog w A R s h => by obtain ⟨hp, g, d, tk, os⟩ := s; obtain ⟨hl, h⟩ := h; wp_walk using wpAny_loadPart' hl, wpAny_load hl; exact ⟨_, rfl, h⟩
theorem dict_ne_str6 (z : Str) (u : Tok) (l : Addr) : Meets (Builtin.«dict.__ne__» ⟨[.ref l, .str z u], []⟩) (fun _ R s => R (.ok (.ret .notImplemented)) s) :=
  .of_wp fun prog w A R s h => by obtain ⟨hp, g, d, tk, os⟩ := s; have f1 := F.sub_str_dict; wp_walk; exact ⟨_, rfl, h⟩
end PySem.W
namespace Y
open PySem PySem.Spec PySem.Calls PyProof.Rows L2 SX Z
theorem po_neDctS {c : Ct} {σ : Sg} {x : DT} {kvs : List (DK × DT)} {z : List Nat} (hx : DiT σ x kvs) : PO2 c (compareOp .NotEq) x (.str z) σ (.bl true) := ⟨fun X hX H K w v u rv ru Q q => by
  have hu := con_room hX
  cases hX
  obtain ⟨a, vs, rfl, q1, r1⟩ := hx.now w rv
  cases ru
  intro pins s st z1 z2 I y1 y2
  cases y1
  obtain ⟨t, rfl⟩ := (show ∃ t, z2 = Value.str (S z) t from y2)
  obtain ⟨_, ya, va, ra, ⟨⟨cls, dd, data, sl⟩, es, ep, ho, hex, hd, _⟩⟩ := dk_rd I.hok q1
  have hc : cls = .type "dict" := hex.1
  have hd2 : data = .dict es ep := hd
  subst hc hd2
  refine SeqAt.rc_ne_decline_or (k := false) ⟨_, ho, rfl⟩ (typeIs_str s (S z) t) (by decide) PySem.F.sub_str_dict PySem.F.slot_dict_ne PySem.F.slot_str_ne_refl
    (fun _ hq => call_meets PySem.F.slot_dict_ne ⟨_, ho, rfl⟩ PySem.F.entry_dict_ne (PySem.F.args_dict_ne_2 _ _) (PySem.W.dict_ne_str6 (S z) t a) hq)
    (fun _ hq => call_meets PySem.F.slot_str_ne_refl (typeIs_str s (S z) t) PySem.F.entry_str_ne (PySem.F.args_str_ne_2 _ _) (PySem.W.str_ne_dict6 (S z) t a _ dd es ep sl) ⟨ho, hq⟩)
    (fun _ hq => wpAny_of_eq (rfl : isSame (.ref a) (.str (S z) t) = pure false) hq) (.inr (by omega)) ?_
  exact ⟨.bl true, K, I, rfl, q _ H K Gw.refl w (.bl _)⟩⟩
end Y

/-! ### k06: values that are no windows -/
namespace Y
open PySem PySem.Spec L2 SX Z
def gB (w : Nat) : List Nat := rpt (sOf "b") w
def wl6 (w : Nat) : List DT := [.str (gB w ++ sOf "b"), .str ((gB w).drop 1), .str ((gB w).drop 1 ++ sOf "B"), .str ((gB w).drop 1 ++ sOf " "), .str ((gB w).drop 1 ++ sOf "1"), .non, .int 0, .bl true, .lst [.str (gB w)], .tup [.str (gB w)], .dct []]
def nE6 (y : DT) : Bool := match y with
  | .str s => !decide (s = sOf "")
  | _ => true
structure NoWin (w : Nat) (y : DT) : Prop where
  t : ∀ σ : Sg, (tyT σ y).isSome = true
  s : ∀ s, y = .str s → s.length ≤ 1000000
  n : isLettersV y w w = false
theorem nw_str {w : Nat} {s : List Nat} (h : s.length ≤ 1000) (h2 : isLettersV (.str s) w w = false) : NoWin w (.str s) := ⟨fun _ => rfl, fun x e => by injection e with e; rw [← e]; omega, h2⟩
theorem nw_oth {w : Nat} {y : DT} (h : ∀ σ : Sg, (tyT σ y).isSome = true) (h2 : ∀ s, y ≠ .str s) (h3 : isLettersV y w w = false) : NoWin w y := ⟨h, fun s e => absurd e (h2 s), h3⟩
theorem wl6_ok {w : Nat} (w1 : 1 ≤ w) (w2 : w ≤ 12) : ∀ y ∈ wl6 w, NoWin w y := by
  intro y hy
  have lb : (gB w).length = w := rpt_len (by decide +kernel)
  have ld : ((gB w).drop 1).length = w - 1 := by rw [List.length_drop, lb]
  have x1 : (sOf "b").length = 1 := by decide +kernel
  have x2 : (sOf "B").length = 1 := by decide +kernel
  have x3 : (sOf " ").length = 1 := by decide +kernel
  have x4 : (sOf "1").length = 1 := by decide +kernel
  simp only [wl6, List.mem_cons, List.not_mem_nil, or_false] at hy
  rcases hy with rfl | rfl | rfl | rfl | rfl | rfl | rfl | rfl | rfl | rfl | rfl
  · exact nw_str (by rw [List.length_append]; omega) (isL_len (by rw [List.length_append]; omega))
  · exact nw_str (by omega) (isL_len (by omega))
  · exact nw_str (by rw [List.length_append]; omega) (isL_bad (by rw [List.all_append, show (sOf "B").all isLet = false by decide +kernel, Bool.and_false]))
  · exact nw_str (by rw [List.length_append]; omega) (isL_bad (by rw [List.all_append, show (sOf " ").all isLet = false by decide +kernel, Bool.and_false]))
  · exact nw_str (by rw [List.length_append]; omega) (isL_bad (by rw [List.all_append, show (sOf "1").all isLet = false by decide +kernel, Bool.and_false]))
  · exact nw_oth (fun _ => rfl) (fun _ e => nomatch e) rfl
  · exact nw_oth (fun _ => rfl) (fun _ e => nomatch e) rfl
  · exact nw_oth (fun _ => rfl) (fun _ e => nomatch e) rfl
  · exact nw_oth (fun _ => rfl) (fun _ e => nomatch e) rfl
  · exact nw_oth (fun _ => rfl) (fun _ e => nomatch e) rfl
  · exact nw_oth (fun _ => rfl) (fun _ e => nomatch e) rfl
def spNoWins : TSpec := fun ds σ Q E => ∃ w : Nat, ds = [.int (w : Int)] ∧ 1 ≤ w ∧ w ≤ 12 ∧ ∀ ys : List DT, ys.length ≤ 20 → (∀ y ∈ ys, NoWin w y) → Q (.lst ys) σ
section
variable {P : Program} {w : World} {F : PySem.W.Frag} {mg : Str → Option Value} {base : Heap}
theorem wl6_ne {c : Ct} {σ : Sg} (sm : ∃ ob, c.base.get? sysModules = some ob) {w : Nat} : ∀ y ∈ wl6 w, PO2 c (compareOp .NotEq) y (.str (sOf "")) σ (.bl (nE6 y)) := by
  intro y hy
  have sb : Sh 0 (.str (gB w)) := (repl_all _ _ _ (by decide +kernel) : (gB w).all (fun k => decide (k < 1114112)) = true)
  have se : Sh 0 (.str (sOf "")) := (by decide +kernel : (sOf "").all (fun k => decide (k < 1114112)) = true)
  have oth : ∀ {n : Nat} {y : DT}, Sh n y → n ≤ 64 → eqT y (.str (sOf "")) = false → nE6 y = true → PO2 c (compareOp .NotEq) y (.str (sOf "")) σ (.bl (nE6 y)) := fun {n y} sh hn e e2 => by
    have := po_neT (c := c) (σ := σ) sm sh se hn (by decide)
    rw [e] at this
    rw [e2]
    exact this
  have str : ∀ s : List Nat, PO2 c (compareOp .NotEq) (.str s) (.str (sOf "")) σ (.bl (nE6 (.str s))) := fun s => po_neS
  simp only [wl6, List.mem_cons, List.not_mem_nil, or_false] at hy
  rcases hy with rfl | rfl | rfl | rfl | rfl | rfl | rfl | rfl | rfl | rfl | rfl
  · exact str _
  · exact str _
  · exact str _
  · exact str _
  · exact str _
  · exact oth (n := 0) trivial (by decide) rfl rfl
  · exact oth (n := 0) trivial (by decide) rfl rfl
  · exact oth (n := 0) trivial (by decide) rfl rfl
  · exact oth (n := 1) (fun x hx => by rw [List.mem_singleton.mp hx]; exact sb) (by decide) rfl rfl
  · exact oth (n := 1) (fun x hx => by rw [List.mem_singleton.mp hx]; exact sb) (by decide) rfl rfl
  · exact po_neDctS diT_l
set_option maxHeartbeats 1000000 in
theorem ok_no_windows (sm : ∃ ob, base.get? sysModules = some ob) (b2 : mg "list" = none) (Fn : DfN F mg "_law_no_windows" ["_law_wide"] s_law_no_windows) : Dt P w F mg base "_law_no_windows" ["_law_wide"] 1 spNoWins := by
  refine dt_ok Fn sc_law_no_windows (fun ds σ Q E h => ?_) (fun ds σ Q E Wx h => ?_)
  · obtain ⟨w, rfl, _⟩ := h
    rfl
  · obtain ⟨w, rfl, w1, w2, q⟩ := h
    have lb : (gB w).length = w := rpt_len (by decide +kernel)
    have ab : (gB w).all isLet = true := rpt_let (by decide +kernel)
    have ld : ((gB w).drop 1).length = w - 1 := by rw [List.length_drop, lb]
    have x1 : (sOf "b").length = 1 := by decide +kernel
    have x2 : (sOf "B").length = 1 := by decide +kernel
    have x3 : (sOf " ").length = 1 := by decide +kernel
    have x4 : (sOf "1").length = 1 := by decide +kernel
    have x5 : (sOf "\n").length = 1 := by decide +kernel
    have tw : ((w : Nat) : Int).toNat = w := rfl
    refine tk_setV (i := 1) (d := .str (gB w)) (by walk_at "sto") (TV.castS (j := gB w) (tv_bin (by walk_at "v" : TV _ _ _ _ (.str (sOf "b"))) (by walk_at "v" : TV _ _ _ _ (.int (w : Int))) (po_mulS (by omega) (by omega) (by rw [x1, tw]; omega))) rfl) ?_
    refine tk_setV (i := 2) (d := .lst (wl6 w)) (by walk_at "sto") (TV.castL (tv_lst (tva_cons (tv_bin (by walk_at "v" : TV _ _ _ _ (.str (gB w))) (by walk_at "v" : TV _ _ _ _ (.str (sOf "b"))) (po_addS (by omega)))
      (tva_cons (TV.castS (tv_slice (by walk_at "v" : TV _ _ _ _ (.str (gB w))) (to_some (by walk_at "v" : TV _ _ _ _ (.int 1))) to_none (pl_str (by omega))) (Z.cut_from (i := 1) rfl))
      (tva_cons (tv_bin (TV.castS (tv_slice (by walk_at "v" : TV _ _ _ _ (.str (gB w))) (to_some (by walk_at "v" : TV _ _ _ _ (.int 1))) to_none (pl_str (by omega))) (Z.cut_from (i := 1) rfl)) (by walk_at "v" : TV _ _ _ _ (.str (sOf "B"))) (po_addS (by omega)))
      (tva_cons (tv_bin (TV.castS (tv_slice (by walk_at "v" : TV _ _ _ _ (.str (gB w))) (to_some (by walk_at "v" : TV _ _ _ _ (.int 1))) to_none (pl_str (by omega))) (Z.cut_from (i := 1) rfl)) (by walk_at "v" : TV _ _ _ _ (.str (sOf " "))) (po_addS (by omega)))
      (tva_cons (tv_bin (TV.castS (tv_slice (by walk_at "v" : TV _ _ _ _ (.str (gB w))) (to_some (by walk_at "v" : TV _ _ _ _ (.int 1))) to_none (pl_str (by omega))) (Z.cut_from (i := 1) rfl)) (by walk_at "v" : TV _ _ _ _ (.str (sOf "1"))) (po_addS (by omega)))
      (tva_cons (by walk_at "v" : TV _ _ _ _ .non) (tva_cons (by walk_at "v" : TV _ _ _ _ (.int 0)) (tva_cons (by walk_at "v" : TV _ _ _ _ (.bl true)) (tva_cons (tv_lst (tva_cons (by walk_at "v" : TV _ _ _ _ (.str (gB w))) tva_nil)) (tva_cons (tv_tup (tva_cons (by walk_at "v" : TV _ _ _ _ (.str (gB w))) tva_nil)) (tva_cons tv_dict0 tva_nil)))))))))))) rfl) ?_
    have lo : (ones (gB w)).length = w := by unfold ones; rw [List.length_map, lb]
    refine tk_ret (tv_bin (tv_lc (α := DT) (l := wl6 w) (g := id) (f := id) (tt := nE6) (own := [("_law_one", 3)]) (t := .nm 3) (by walk_at "tgt") (by walk_at "blk") (by decide) (tvi_lst (TV.castL (by walk_at "v" : TV _ _ _ _ (.lst (wl6 w))) (List.map_id _).symm)) (Nat.le_of_ble_eq_true rfl) (fun _ _ => rfl) (fun y hy => ⟨tb_cmp (by walk_at "v" : TV _ _ _ _ y) (by walk_at "v" : TV _ _ _ _ (.str (sOf ""))) (wl6_ne sm y hy) (by rfl), fun _ => by walk_at "v"⟩))
      (tv_lst (tva_cons (by walk_at "v" : TV _ _ _ _ (.str (sOf ""))) (tva_cons (tv_bin (tv_bin (by walk_at "v" : TV _ _ _ _ (.str (gB w))) (by walk_at "v" : TV _ _ _ _ (.int 14)) (po_mulS (by decide) (by decide) (by rw [lb, show (14 : Int).toNat = 14 from rfl]; omega))) (by walk_at "v" : TV _ _ _ _ (.str (sOf "\n"))) (po_addS (by rw [repl_len, lb, x5, show (14 : Int).toNat = 14 from rfl]; omega))) (tva_cons (tv_callTy (by rfl) (by walk_at "as") (by walk_at "bt") (by walk_at "va" : TVA _ _ _ _ [.str (gB w)]) (pf_listS (by omega))) tva_nil)))) (po_cat lsX_l lsX_l (by
        rw [List.length_map]
        have := List.length_filter_le nE6 (wl6 w)
        have e : (wl6 w).length = 11 := rfl
        simp only [List.length_cons, List.length_nil]
        omega))) (q _ ?_ fun y hy => ?_)
    · rw [List.length_append, List.length_map]
      have := List.length_filter_le nE6 (wl6 w)
      have e : (wl6 w).length = 11 := rfl
      simp only [List.length_cons, List.length_nil]
      omega
    · rcases List.mem_append.mp hy with hy | hy
      · rw [List.map_id] at hy
        exact wl6_ok w1 w2 y (List.mem_filter.mp hy).1
      · simp only [List.mem_cons, List.not_mem_nil, or_false] at hy
        rcases hy with rfl | rfl | rfl
        · exact nw_str (by decide) (isL_len (show (0 : Nat) ≠ w by omega))
        · refine nw_str ?_ (isL_bad (by rw [List.all_append, show (sOf "\n").all isLet = false by decide +kernel, Bool.and_false]))
          rw [List.length_append, repl_len, lb, x5, show (14 : Int).toNat = 14 from rfl]
          omega
        · exact nw_oth (fun _ => rfl) (fun _ e => nomatch e) rfl
end
end Y

/-! ### k06: _law_right -/
namespace Y
open PySem PySem.Spec L2 SX Z
theorem eqT_slf6 {x : DT} (h : PySem.W.alike (toPy x) (toPy x) = true) : eqT x x = true := PySem.W.eqv_refl_alike _ h
theorem cs_top {w : Nat} {t : CS} (w1 : 1 ≤ w) (ct : CSok w t) : ∀ p ∈ t, p.2 ≤ 200 := by
  have gen : ∀ l : CS, (∀ p ∈ l, 1 ≤ p.2) → 0 ≤ csum l ∧ ∀ p ∈ l, p.2 ≤ csum l := by
    intro l
    induction l with
    | nil => intro _; exact ⟨Int.le_refl _, fun p hp => nomatch hp⟩
    | cons q l ih =>
      intro hp
      obtain ⟨i1, i2⟩ := ih fun p h => hp p (List.mem_cons_of_mem _ h)
      have q1 := hp q List.mem_cons_self
      unfold csum at i1 i2 ⊢
      rw [List.map_cons, List.sum_cons]
      refine ⟨by omega, fun p h => ?_⟩
      rcases List.mem_cons.mp h with e | h
      · subst e
        omega
      · have := i2 p h
        omega
  intro p hp
  have := (gen t ct.pos).2 p hp
  have l1 := ct.len
  have l2 := ct.sum
  omega
theorem addM_three {w : Nat} {t : CS} {k : List Nat} {m : Int} (h : CSok w t) (hm : 1 ≤ m) (k1 : k.length = w) (k2 : k.all isLet = true) : ((addM t k m).map (·.1)).Nodup ∧ (∀ p ∈ addM t k m, p.1.length = w ∧ p.1.all isLet = true) ∧ (∀ p ∈ addM t k m, 1 ≤ p.2) ∧ (addM t k m).length ≤ t.length + 1 := by
  have cp := cget_pos (k := k) h.pos
  unfold addM
  cases e : t.any fun p => decide (p.1 = k) with
  | true =>
    rw [if_pos rfl]
    have e2 : ((t.map fun p => if p.1 = k then (p.1, (cget t k).getD 0 + m) else p).map (·.1)) = t.map (·.1) := by
      rw [List.map_map]
      refine List.map_congr_left fun p _ => ?_
      show (if p.1 = k then (p.1, (cget t k).getD 0 + m) else p).1 = p.1
      split <;> rfl
    refine ⟨by rw [e2]; exact h.nd, fun p hp => ?_, fun p hp => ?_, by rw [List.length_map]; omega⟩
    · obtain ⟨q, hq, rfl⟩ := List.mem_map.mp hp
      split
      · exact h.key q hq
      · exact h.key q hq
    · obtain ⟨q, hq, rfl⟩ := List.mem_map.mp hp
      split
      · show 1 ≤ (cget t k).getD 0 + m
        omega
      · exact h.pos q hq
  | false =>
    rw [if_neg (by decide)]
    refine ⟨?_, fun p hp => ?_, fun p hp => ?_, by rw [List.length_append]; exact Nat.le_refl _⟩
    · rw [List.map_append, List.nodup_append]
      refine ⟨h.nd, by simp, fun a ha b hb => ?_⟩
      obtain ⟨p, hp, rfl⟩ := List.mem_map.mp ha
      have := List.any_eq_false.mp e p hp
      simp only [List.map_cons, List.map_nil, List.mem_singleton] at hb
      rw [hb]
      simpa using this
    · rcases List.mem_append.mp hp with hp | hp
      · exact h.key p hp
      · rw [List.mem_singleton.mp hp]; exact ⟨k1, k2⟩
    · rcases List.mem_append.mp hp with hp | hp
      · exact h.pos p hp
      · rw [List.mem_singleton.mp hp]; exact hm
def vl6 : List DT := [.int 0, .int (-1), .int 13, .non, .bl true, .bl false, .str (sOf "1"), .lst [.int 1], .tup [.int 1], .dct [], .int (10 ^ (59 : Int).toNat)]
theorem vl6_ok : ∀ y ∈ vl6, bi y = true ∧ isIntV y 1 12 = false := by
  intro y hy
  simp only [vl6, List.mem_cons, List.not_mem_nil, or_false] at hy
  rcases hy with rfl | rfl | rfl | rfl | rfl | rfl | rfl | rfl | rfl | rfl | rfl
  · exact ⟨rfl, rfl⟩
  · exact ⟨rfl, rfl⟩
  · exact ⟨rfl, rfl⟩
  · exact ⟨rfl, rfl⟩
  · exact ⟨rfl, rfl⟩
  · exact ⟨rfl, rfl⟩
  · exact ⟨rfl, rfl⟩
  · exact ⟨rfl, rfl⟩
  · exact ⟨rfl, rfl⟩
  · exact ⟨rfl, rfl⟩
  · exact ⟨rfl, isInt_big (by decide +kernel)⟩
theorem sh_strs {n : Nat} {ss : List (List Nat)} (h : ∀ s ∈ ss, s.all (fun k => decide (k < 1114112)) = true) : Sh (n + 1) (.lst (ss.map DT.str)) := fun x hx => by
  obtain ⟨s, hs, rfl⟩ := List.mem_map.mp hx
  have := h s hs
  cases n <;> exact this
def spRight6 : TSpec := fun ds σ Q E => ∃ (p : Addr) (w N : Nat) (xs : List DT), ds = [.ref p, .int (w : Int)] ∧ 1 ≤ w ∧ w ≤ 12 ∧ σ p = some (.lst xs) ∧ reelOk N xs ∧ N < 2 ^ 58 ∧ ∀ xs', reelOk (N + 250001) xs' → Q (.bl true) (su σ p (.lst xs'))
section
variable {P : Program} {w : World} {F : PySem.W.Frag} {mg : Str → Option Value} {base : Heap} {C : Addr}
set_option maxHeartbeats 4000000 in
theorem ok_right6 (sm : ∃ ob, base.get? sysModules = some ob) (hm : mg "Table" = some (.ref C)) (LD : Dt P w F mg base "_law_dict" ["_law_reel_here", "_law_wide", "_law_most"] 3 spDict) (M : DtI P w F mg base C ["self", "width", "counts"] 3 (spInit C)) (LN : Dt P w F mg base "_law_no_counts" ["_law_reel_here", "_law_wide", "_law_counts"] 2 spNoCounts)
    (LW : Dt P w F mg base "_law_no_windows" ["_law_wide"] 1 spNoWins) (LT : Dt P w F mg base "_law_told" ["_law_door", "_law_one", "_law_other"] 6 (spTold6 C)) (b1 : mg "repr" = none) (b2 : mg "dict" = none) (b3 : mg "sum" = none)
    (Fn : DfN F mg "_law_right" ["_law_reel_here", "_law_wide"] s_law_right) : Dt P w F mg base "_law_right" ["_law_reel_here", "_law_wide"] 7 spRight6 := by
  refine dt_ok Fn sc_law_right (fun ds σ Q E h => ?_) (fun ds σ Q E Wx h => ?_)
  · obtain ⟨p, w, N, xs, rfl, _⟩ := h
    rfl
  · obtain ⟨p, w, N, xs, rfl, w1, w2, hσ, ok, hN, q⟩ := h
    refine tk_set (i := 2) (by walk_at "sto") (te_own LD (by walk_at "k") (by rfl) ((by walk_at "va" : TVA _ _ _ _ [.ref p, .int (w : Int), .int (200 - (w : Int))]).to ⟨p, w, 200 - (w : Int), N, xs, rfl, w1, w2, by omega, by omega, hσ, ok, hN, fun t xs2 ct hM ok2 => ?_⟩))
    refine tk_cons (ts_un2 (i := 3) (j := 4) (by walk_at "tgt") (by walk_at "tgt") (te_tup (ta_v (tv_make (fs := [("letters", .int (w : Int)), ("found", .dct (cD (srtC t)))]) M (by walk_at "k") (by rfl) hm (by walk_at "va" : TVA _ _ _ _ [.int (w : Int), .dct (cD t)]) (fun z hz q => ⟨z, w, t, rfl, su_same, w1, w2, ct, by rw [su_su]; exact q⟩))
      (ta_cons (te_own LN (by walk_at "k") (by rfl) ((by walk_at "va" : TVA _ _ _ _ [.ref p, .int (w : Int), .dct (cD t)]).to ⟨p, w, t, _, xs2, rfl, w1, w2, ct, su_same, ok2, by omega, fun ys xs3 hl hys ok3 => ta_nil ⟨Nat.le_of_ble_eq_true rfl, _, _, rfl, ?_⟩⟩))))) (.inl (by rfl)))
    rw [su_su]
    have qq := q xs3 (reel_le ok3 (by omega))
    generalize su σ p (.lst xs3) = σ1 at qq ⊢
    have l1 := ct.len
    have l2 := ct.sum
    have x1 : (sOf "c").length = 1 := by decide +kernel
    have x2 : (sOf "h").length = 1 := by decide +kernel
    have x3 : (sOf "i").length = 1 := by decide +kernel
    have tw : ((w : Nat) : Int).toNat = w := rfl
    have g : Gd 4 249000 (.lst [.dct (cD t), .lst ys]) := by
      have g1 : Gd 3 4500 (.dct (cD t)) := .dct (gdK_le (by omega) (gdK_sm w2 t ct.key ct.pos (cs_top w1 ct)))
      have g2 : Gd 3 200040 (.lst ys) := .lst ((GdA.all (w := 5000) fun y hy => (hys y hy).2).le (by omega))
      exact .lst (.cons (w2 := 200050) g1 (.cons (w2 := 0) g2 .nil (by decide)) (by decide))
    obtain ⟨X, hX⟩ : ∃ X, reprT (.lst [.dct (cD t), .lst ys]) = X := ⟨_, rfl⟩
    refine tk_cons (ts_par (i := 5) (j := 6) (by rfl) (by rfl) (by decide) (by rfl) (by rfl) (ta_cons (te_own LW (by walk_at "k") (by rfl) ((by walk_at "va" : TVA _ _ _ _ [.int (w : Int)]).to ⟨w, rfl, w1, w2, fun ws hwl hws => ?_⟩))) (fun env hb hx hy => sw_two hb hx hy rfl rfl rfl rfl rfl))
    refine ta_v (TV.castS (tv_callB (by rfl) (by walk_at "as") (by walk_at "bt") (tva_cons (tv_lst (tva_cons (by walk_at "v" : TV _ _ _ _ (.dct (cD t))) (tva_cons (by walk_at "v" : TV _ _ _ _ (.lst ys)) tva_nil))) tva_nil) (pf_reprG sm rfl g (by decide) (by decide))) hX) (ta_nil ⟨_, _, rfl, ?_⟩)
    refine tk_ifF (TB.cast (tb_cmp (TV.castL (j := []) (tv_lc (α := DT) (l := ys) (g := id) (f := id) (tt := fun _ => false) (own := [("_law_value", 7)]) (t := .nm 7) (by walk_at "tgt") (by walk_at "blk") (by decide) (tvi_lst (TV.castL (by walk_at "v" : TV _ _ _ _ (.lst ys)) (List.map_id _).symm)) (by omega) (fun _ _ => rfl)
      (fun y hy => ⟨TB.cast (tb_cmp (tv_own (d := .str (sOf "counts")) LT (by walk_at "k") (by rfl) (by walk_at "va" : TVA _ _ _ _ [.int 0, .int (w : Int), y]) (fun q => ⟨0, .int (w : Int), y, _, rfl, .cnt w1 w2 (hys y hy).1, q⟩)) (by walk_at "v" : TV _ _ _ _ (.str (sOf "counts"))) po_neS (by rfl)) (by simp), fun z => nomatch z⟩)) (by simp)) (tv_lst tva_nil) (po_neNil sm (fun _ z => nomatch z)) (by rfl)) (by rfl)) (tk_nil ?_)
    refine tk_cons (ts_for (t := .nm 7) (by walk_at "tgt") (ti_lst (te_v (TV.castL (j := vl6) (tv_lst (tva_cons (by walk_at "v" : TV _ _ _ _ (.int 0)) (tva_cons (tv_un (by walk_at "v" : TV _ _ _ _ (.int 1)) po_negI) (tva_cons (by walk_at "v" : TV _ _ _ _ (.int 13)) (tva_cons (by walk_at "v" : TV _ _ _ _ .non) (tva_cons (by walk_at "v" : TV _ _ _ _ (.bl true)) (tva_cons (by walk_at "v" : TV _ _ _ _ (.bl false)) (tva_cons (by walk_at "v" : TV _ _ _ _ (.str (sOf "1"))) (tva_cons (tv_lst (tva_cons (by walk_at "v" : TV _ _ _ _ (.int 1)) tva_nil)) (tva_cons (tv_tup (tva_cons (by walk_at "v" : TV _ _ _ _ (.int 1)) tva_nil)) (tva_cons tv_dict0
      (tva_cons (tv_bin (by walk_at "v" : TV _ _ _ _ (.int 10)) (by walk_at "v" : TV _ _ _ _ (.int 59)) (po_powI (by walk_at "pow"))) tva_nil)))))))))))) rfl) ⟨_, rfl, ?_⟩)))
    refine ⟨fun i ρ1 σ2 => ∃ a7 : Option DT, σ2 = σ1 ∧ ρ1 = [some (.ref p), some (.int (w : Int)), some (.dct (cD t)), some (tabT C w (srtC t)), some (.lst ys), some (.lst ws), some (.str X), a7, none, none, none, none], ⟨none, rfl, rfl⟩, ?_, ?_⟩
    · rintro i y ρ1 σ2 hd ⟨a7, rfl, rfl⟩
      have hy := vl6_ok y (List.mem_of_getElem? hd)
      have sh3 : Sh 2 (.lst [.str (sOf "width"), .str (sOf "width"), .str (sOf "width")]) := sh_strs (ss := [sOf "width", sOf "width", sOf "width"]) (by decide +kernel)
      refine ⟨_, rfl, ?_⟩
      exact tk_ifF (TB.cast (tb_cmp (TV.castL (j := [.str (sOf "width"), .str (sOf "width"), .str (sOf "width")]) (tv_lcM (α := DT) (l := [.dct (cD t), .dct [], .non]) (g := id) (f := fun _ => .str (sOf "width")) (own := [("_law_some", 11)]) (t := .nm 11) (by walk_at "tgt") (by walk_at "blk") (by decide) (tvi_tup (TV.cast (tv_tup (tva_cons (by walk_at "v" : TV _ _ _ _ (.dct (cD t))) (tva_cons tv_dict0 (tva_cons (by walk_at "v" : TV _ _ _ _ .non) tva_nil)))) (congrArg DT.tup (List.map_id _).symm))) (Nat.le_of_ble_eq_true rfl) (fun _ _ => rfl)
        (fun z hz => tv_own (d := .str (sOf "width")) LT (by walk_at "k") (by rfl) (by walk_at "va" : TVA _ _ _ _ [.int 0, y, z]) (fun q => ⟨0, y, z, _, rfl, .wid hy.1 hy.2, q⟩))) rfl) (TV.castL (j := [.str (sOf "width"), .str (sOf "width"), .str (sOf "width")]) (tv_bin (tv_lst (tva_cons (by walk_at "v" : TV _ _ _ _ (.str (sOf "width"))) tva_nil)) (by walk_at "v" : TV _ _ _ _ (.int 3)) (po_rep lsX_l (by decide) (by decide) (by decide))) (by rfl)) (po_neT (n := 2) (m := 2) sm sh3 sh3 (by decide) (by decide)) (by rfl)) (by rw [eqT_slf6 (by rfl)]; rfl)) (tk_nil (tk_nil ⟨_, rfl, rfl⟩))
    rintro ρ1 σ2 ⟨a7, rfl, rfl⟩
    refine tk_ifF (TB.cast (tb_cmp (TV.castL (j := []) (tv_lc (α := DT) (l := ws) (g := id) (f := id) (tt := fun _ => false) (own := [("_law_value", 7)]) (t := .nm 7) (by walk_at "tgt") (by walk_at "blk") (by decide) (tvi_lst (TV.castL (by walk_at "v" : TV _ _ _ _ (.lst ws)) (List.map_id _).symm)) (by omega) (fun _ _ => rfl)
      (fun y hy => ⟨TB.cast (tb_cmp (tv_own (d := .str (sOf "window")) LT (by walk_at "k") (by rfl) (by walk_at "va" : TVA _ _ _ _ [.int 2, tabT C w (srtC t), y]) (fun q => ⟨2, tabT C w (srtC t), y, _, rfl, .win w2 (hws y hy).t (hws y hy).s (hws y hy).n, q⟩)) (by walk_at "v" : TV _ _ _ _ (.str (sOf "window"))) po_neS (by rfl)) (by simp), fun z => nomatch z⟩)) (by simp)) (tv_lst tva_nil) (po_neNil sm (fun _ z => nomatch z)) (by rfl)) (by rfl)) (tk_nil ?_)
    have lc : (rpt (sOf "c") w).length = w := rpt_len x1
    have ac : (rpt (sOf "c") w).all isLet = true := rpt_let (by decide +kernel)
    have lh : (rpt (sOf "h") w).length = w := rpt_len x2
    have ah : (rpt (sOf "h") w).all isLet = true := rpt_let (by decide +kernel)
    have li : (rpt (sOf "i") w).length = w := rpt_len x3
    have ai : (rpt (sOf "i") w).all isLet = true := rpt_let (by decide +kernel)
    refine tk_ifF (TB.cast (tb_W (tbw_or (tb_cmp (tv_own (d := .str (sOf "fine")) LT (by walk_at "k") (by rfl) (tva_cons (by walk_at "v" : TV _ _ _ _ (.int 2)) (tva_cons (by walk_at "v" : TV _ _ _ _ (tabT C w (srtC t))) (tva_cons (TV.castS (j := rpt (sOf "c") w) (tv_bin (by walk_at "v" : TV _ _ _ _ (.str (sOf "c"))) (by walk_at "v" : TV _ _ _ _ (.int (w : Int))) (po_mulS (by omega) (by omega) (by rw [x1, tw]; omega))) rfl) tva_nil))) (fun q => ⟨2, tabT C w (srtC t), .str (rpt (sOf "c") w), _, rfl, .wgood lc w2 ac, q⟩)) (by walk_at "v" : TV _ _ _ _ (.str (sOf "fine"))) po_neS (by rfl))
      (fun _ => tbw_or1 (tb_cmp (tv_own (d := .str (sOf "fine")) LT (by walk_at "k") (by rfl) (by walk_at "va" : TVA _ _ _ _ [.int 0, .int (w : Int), .dct (cD t)]) (fun q => ⟨0, .int (w : Int), .dct (cD t), _, rfl, .good w1 w2 ct, q⟩)) (by walk_at "v" : TV _ _ _ _ (.str (sOf "fine"))) po_neS (by rfl))))) (by simp)) (tk_nil ?_)
    refine tk_set (i := 8) (by walk_at "sto") (te_dictD (by rfl) (by walk_at "as") (te_v (by walk_at "v" : TV _ _ _ _ (.dct (cD t))) ⟨_, diT_l, fun g1 hg1 => ?_⟩))
    have eg : ∀ (u : CS) (k : List Nat), (dvl (cD u) (.inr k)).getD (.int 0) = .int ((cget u k).getD 0) := fun u k => by
      rw [cD_get]
      cases cget u k <;> rfl
    have hp0 : ∀ z ∈ cT t, 0 ≤ z.2 := fun z hz => by
      obtain ⟨a, ha, rfl⟩ := List.mem_map.mp hz
      have := ct.pos a ha
      show 0 ≤ a.2
      omega
    have hsm : ((cT t).map (·.2)).sum = csum t := by
      unfold cT csum
      rw [List.map_map]
      rfl
    have m1 : 1 ≤ 201 - (w : Int) - csum t := by omega
    have nl : ∀ u : CS, u.length ≤ 1000 → (cD u).length < 16777216 := fun u hu => by rw [cD_len]; omega
    refine tk_cons (ts_setItemD ((TV.castI (j := (cget t (rpt (sOf "h") w)).getD 0 + (201 - (w : Int) - csum t)) (tv_bin (tv_bin (tv_bin (TV.cast (tv_meth PySem.F.plainAttrs_dict PySem.F.slot_dict_get PySem.F.type_dict_get (by walk_at "v" : TV _ _ _ _ (.ref g1)) (ty_dct (diT_c su_same)) (tva_cons (TV.castS (j := rpt (sOf "h") w) (tv_bin (by walk_at "v" : TV _ _ _ _ (.str (sOf "h"))) (by walk_at "v" : TV _ _ _ _ (.int (w : Int))) (po_mulS (by omega) (by omega) (by rw [x2, tw]; omega))) rfl) (tva_cons (by walk_at "v" : TV _ _ _ _ (.int 0)) tva_nil)) (pm_get2 (k := .inr (rpt (sOf "h") w)) (d := .int 0) (diT_c su_same))) (eg t _)) (by walk_at "v" : TV _ _ _ _ (.int 201)) po_addI) (by walk_at "v" : TV _ _ _ _ (.int (w : Int))) po_subI)
      (TV.castI (tv_sumV (ks := cT t) (by rfl) (by walk_at "as") (by walk_at "v" : TV _ _ _ _ (.dct (cD t))) diT_l hp0 (by rw [hsm]; omega)) hsm) po_subI) (by omega)).to ((by walk_at "v" : TV _ _ _ _ (.ref g1)).to ((TV.castS (j := rpt (sOf "h") w) (tv_bin (by walk_at "v" : TV _ _ _ _ (.str (sOf "h"))) (by walk_at "v" : TV _ _ _ _ (.int (w : Int))) (po_mulS (by omega) (by omega) (by rw [x2, tw]; omega))) rfl).to ⟨g1, _, .inr (rpt (sOf "h") w), rfl, rfl, su_same, nl t (by omega), ?_⟩))))
    rw [su_su, cD_addM]
    have cf := ct.add (m := 201 - (w : Int) - csum t) m1 lh ah (by omega)
    have sf := csum_addM (k := rpt (sOf "h") w) (m := 201 - (w : Int) - csum t) ct.nd
    generalize addM t (rpt (sOf "h") w) (201 - (w : Int) - csum t) = full at cf sf ⊢
    have lf1 := cf.len
    have lf2 := cf.sum
    refine tk_frz (i := 8) (p := g1) (by rfl) su_same ?_
    rw [sd_su hg1]
    show TBk _ _ [some (.ref p), some (.int (w : Int)), some (.dct (cD t)), some (tabT C w (srtC t)), some (.lst ys), some (.lst ws), some (.str X), a7, some (.dct (cD full)), none, none, none] _ _
    refine tk_set (i := 9) (by walk_at "sto") (te_dictD (by rfl) (by walk_at "as") (te_v (by walk_at "v" : TV _ _ _ _ (.dct (cD full))) ⟨_, diT_l, fun g2 hg2 => ?_⟩))
    refine tk_cons (ts_setItemD ((tv_bin (TV.cast (tv_meth PySem.F.plainAttrs_dict PySem.F.slot_dict_get PySem.F.type_dict_get (by walk_at "v" : TV _ _ _ _ (.ref g2)) (ty_dct (diT_c su_same)) (tva_cons (TV.castS (j := rpt (sOf "i") w) (tv_bin (by walk_at "v" : TV _ _ _ _ (.str (sOf "i"))) (by walk_at "v" : TV _ _ _ _ (.int (w : Int))) (po_mulS (by omega) (by omega) (by rw [x3, tw]; omega))) rfl) (tva_cons (by walk_at "v" : TV _ _ _ _ (.int 0)) tva_nil)) (pm_get2 (k := .inr (rpt (sOf "i") w)) (d := .int 0) (diT_c su_same))) (eg full _)) (by walk_at "v" : TV _ _ _ _ (.int 1)) po_addI).to ((by walk_at "v" : TV _ _ _ _ (.ref g2)).to
      ((TV.castS (j := rpt (sOf "i") w) (tv_bin (by walk_at "v" : TV _ _ _ _ (.str (sOf "i"))) (by walk_at "v" : TV _ _ _ _ (.int (w : Int))) (po_mulS (by omega) (by omega) (by rw [x3, tw]; omega))) rfl).to ⟨g2, _, .inr (rpt (sOf "i") w), rfl, rfl, su_same, nl full (by omega), ?_⟩))))
    rw [su_su, cD_addM]
    obtain ⟨n1, n2, n3, n4⟩ := addM_three (m := 1) cf (Int.le_refl _) li ai
    have sn := csum_addM (k := rpt (sOf "i") w) (m := 1) cf.nd
    generalize addM full (rpt (sOf "i") w) 1 = more at n1 n2 n3 n4 sn ⊢
    refine tk_frz (i := 9) (p := g2) (by rfl) su_same ?_
    rw [sd_su hg2]
    show TBk _ _ [some (.ref p), some (.int (w : Int)), some (.dct (cD t)), some (tabT C w (srtC t)), some (.lst ys), some (.lst ws), some (.str X), a7, some (.dct (cD full)), some (.dct (cD more)), none, none] _ _
    have nc : NoCnt w (.dct (cD more)) := .big (by omega) n1 n2 n3 (by omega)
    refine tk_setV (i := 10) (d := .lst [.str (sOf "fine"), .str (sOf "counts")]) (by walk_at "sto") (tv_lst (tva_cons (tv_own (d := .str (sOf "fine")) LT (by walk_at "k") (by rfl) (by walk_at "va" : TVA _ _ _ _ [.int 0, .int (w : Int), .dct (cD full)]) (fun q => ⟨0, .int (w : Int), .dct (cD full), _, rfl, .good w1 w2 cf, q⟩)) (tva_cons (tv_own (d := .str (sOf "counts")) LT (by walk_at "k") (by rfl) (by walk_at "va" : TVA _ _ _ _ [.int 0, .int (w : Int), .dct (cD more)]) (fun q => ⟨0, .int (w : Int), .dct (cD more), _, rfl, .cnt w1 w2 nc, q⟩)) tva_nil))) ?_
    have sh2 : Sh 2 (.lst [.str (sOf "fine"), .str (sOf "counts")]) := sh_strs (ss := [sOf "fine", sOf "counts"]) (by decide +kernel)
    exact tk_ret (tv_and (r := true) (s := true) (TV.castB (tv_cmp (by walk_at "v" : TV _ _ _ _ (.lst [.str (sOf "fine"), .str (sOf "counts")])) (tv_lst (tva_cons (by walk_at "v" : TV _ _ _ _ (.str (sOf "fine"))) (tva_cons (by walk_at "v" : TV _ _ _ _ (.str (sOf "counts"))) tva_nil))) (po_eqT (n := 2) (m := 2) sm sh2 sh2 (by decide) (by decide)) (by rfl)) (eqT_slf6 (by rfl)))
      (fun _ => tv_one (TV.castB (tv_cmp (TV.castS (tv_callB (by rfl) (by walk_at "as") (by walk_at "bt") (tva_cons (tv_lst (tva_cons (by walk_at "v" : TV _ _ _ _ (.dct (cD t))) (tva_cons (by walk_at "v" : TV _ _ _ _ (.lst ys)) tva_nil))) tva_nil) (pf_reprG sm rfl g (by decide) (by decide))) hX) (by walk_at "v" : TV _ _ _ _ (.str X)) po_eqS (by rfl)) (decide_eq_true rfl)))) qq
end
end Y

/-! ### k06: the law -/
namespace Y
open PySem PySem.Spec L2 SX Z
theorem nr_rw {y : DT} (h : NoRow y) : NoRw y := ⟨h.2.2, fun s e => by subst e; exact Nat.le_trans (gd_str h.2.1) (by decide), h.1⟩
section
variable {P : Program} {w : World} {F : PySem.W.Frag} {mg : Str → Option Value} {base : Heap} {C : Addr}
set_option maxHeartbeats 4000000 in
theorem ok_law6 (sm : ∃ ob, base.get? sysModules = some ob) (L1 : Dt P w F mg base "_law_reel" ["_law_script"] 1 spReel) (L0 : Dt P w F mg base "_law_draw" ["_law_reel_here", "_law_many"] 1 spDraw) (LW : Dt P w F mg base "_law_word" ["_law_reel_here", "_law_low", "_law_high"] 2 spWord)
    (LR : Dt P w F mg base "_law_no_rows" ["_law_reel_here", "_law_text"] 2 spNoRows) (LN : Dt P w F mg base "_law_no_widths" ["_law_text"] 1 spNoWidths) (L3 : Dt P w F mg base "_law_right" ["_law_reel_here", "_law_wide"] 7 spRight6) (LT : Dt P w F mg base "_law_told" ["_law_door", "_law_one", "_law_other"] 6 (spTold6 C))
    {f : Addr} {fd : FuncData} (Fn : Fun F "law" "law" s_law f fd) (b1 : mg "len" = none) (b2 : mg "min" = none) (b3 : mg "range" = none) : FnG P w F mg base 8 f fd ["_law_script"] (spT F lawSpec) := by
  refine fnT_ok Fn sc_law (fun ds σ Q E h => ?_) (fun ds σ Q E Wx h => ?_)
  · obtain ⟨ns, rfl, _⟩ := h
    rfl
  · obtain ⟨ns, rfl, hl, _, q⟩ := h
    refine tk_set (i := 1) (by walk_at "sto") (te_own L1 (by walk_at "k") (by rfl) ((by walk_at "va" : TVA _ _ _ _ _).to ⟨ns, rfl, hl, fun p xs hp ok => ?_⟩))
    refine tk_cons (ts_for (t := .nm 2) (by walk_at "tgt") (ti_range1 (by rfl) (by walk_at "as") (te_v (by walk_at "v") ⟨_, rfl, by rw [List.length_map]; omega, ?_⟩)))
    refine ⟨fun i ρ1 σ2 => ∃ xs a2 a3 a4, σ2 = su σ p (.lst xs) ∧ reelOk (i * 300000) xs ∧ ρ1 = [some (.seq (ns.map DT.int)), some (.ref p), a2, a3, a4, none], ⟨xs, none, none, none, rfl, ok, rfl⟩, ?_, ?_⟩
    · rintro i d ρ1 σ2 hd ⟨xs, a2, a3, a4, rfl, ok, rfl⟩
      rw [List.getElem?_map] at hd
      obtain ⟨j, hj, rfl⟩ := Option.map_eq_some_iff.mp hd
      have hi : i < 7 := by
        have h1 := (List.getElem?_eq_some_iff.mp hj).1
        rw [List.length_range] at h1
        omega
      refine ⟨_, rfl, ?_⟩
      refine tk_cons (ts_if (tt_not (tt_val (te_own L3 (by walk_at "k") (by rfl) (ta_v (by walk_at "v" : TV _ _ _ _ (.ref p)) (ta_cons (te_sub (te_lst (ta_cons (te_bin (te_v (by walk_at "v") (te_draw L0 (by walk_at "k") (by rfl) (by walk_at "va") ok (by omega) (by decide) (by decide) fun d1 xs1 d10 d11 ok1 => ⟨_, po_addI, ?_⟩))))))))))))
      refine ta_cons (te_bin (te_v (by walk_at "v") (te_draw L0 (by walk_at "k") (by rfl) (by walk_at "va") ok1 (by omega) (by decide) (by decide) fun d2 xs2 d20 d21 ok2 => ⟨_, po_addI, ta_nil ⟨by exact Nat.le_of_ble_eq_true rfl, ?_⟩⟩)))
      obtain ⟨wv, hat, v1, v2⟩ : ∃ wv : Nat, atI [DT.int (1 + d1), DT.int (1 + d2)] ((j : Int) % 2) = some (.int (wv : Int)) ∧ 1 ≤ wv ∧ wv ≤ 12 := by
        have : (j : Int) % 2 = 0 ∨ (j : Int) % 2 = 1 := by omega
        rcases this with e | e
        · rw [e]; exact ⟨(1 + d1).toNat, by rw [Int.toNat_of_nonneg (by omega)]; rfl, by omega, by omega⟩
        · rw [e]; exact ⟨(1 + d2).toNat, by rw [Int.toNat_of_nonneg (by omega)]; rfl, by omega, by omega⟩
      refine te_v (by walk_at "v") ⟨_, pi_lst lsT_l hat, ta_nil ⟨p, wv, _, xs2, rfl, v1, v2, su_same, ok2, by omega, fun xs3 ok3 => ⟨true, rfl, fun z => absurd z (by decide), fun _ => tk_nil ?_⟩⟩⟩
      rw [su_su]
      obtain ⟨hi2, hat2, g1, g2⟩ : ∃ h2 : Nat, atI [DT.int 200, DT.int 11] ((j : Int) % 2) = some (.int (h2 : Int)) ∧ 1 ≤ h2 ∧ h2 ≤ 200 := by
        have : (j : Int) % 2 = 0 ∨ (j : Int) % 2 = 1 := by omega
        rcases this with e | e
        · rw [e]; exact ⟨200, rfl, by decide, by decide⟩
        · rw [e]; exact ⟨11, rfl, by decide, by decide⟩
      refine tk_set (i := 3) (by walk_at "sto") (te_own LW (by walk_at "k") (by rfl) ((tva_cons (by walk_at "v" : TV _ _ _ _ (.ref p)) (tva_cons (by walk_at "v" : TV _ _ _ _ (.int 1)) (tva_cons (tv_sub (d := .int (hi2 : Int)) (by walk_at "v" : TV _ _ _ _ (.lst [.int 200, .int 11])) (tv_bin (by walk_at "v" : TV _ _ _ _ (.int (j : Int))) (by walk_at "v" : TV _ _ _ _ (.int 2)) (po_modI (by decide))) (pi_lst lsT_l hat2)) tva_nil))).to ⟨p, 1, hi2, _, xs3, rfl, su_same, ok3, by omega, by decide, g1, by omega, fun r xs4 r1 r2 r3 ok4 => ?_⟩))
      rw [su_su]
      have hr : rowOk r := ⟨r1, by omega, r3⟩
      have r200 : r.length ≤ 200 := by omega
      refine tk_cons (ts_for (t := .nm 4) (by walk_at "tgt") (ti_lst (te_own LR (by walk_at "k") (by rfl) ((by walk_at "va" : TVA _ _ _ _ [.ref p, .str r]).to ⟨p, r, _, xs4, rfl, su_same, ok4, by omega, hr, fun ys xs5 hyl hys ok5 => ⟨ys, rfl, ?_⟩⟩))))
      rw [su_su]
      have keep : reelOk ((i + 1) * 300000) xs5 := reel_le ok5 (by omega)
      refine ⟨fun i2 ρ2 σ3 => ∃ a4 : Option DT, σ3 = su σ p (.lst xs5) ∧ ρ2 = [some (.seq (ns.map DT.int)), some (.ref p), some (.int (j : Int)), some (.str r), a4, none], ⟨a4, rfl, rfl⟩, ?_, ?_⟩
      · rintro i2 y ρ2 σ3 hd2 ⟨b4, rfl, rfl⟩
        have hy := hys y (List.mem_of_getElem? hd2)
        have sh2 : Sh 2 (.lst [.str (sOf "row"), .str (sOf "row")]) := sh_strs (ss := [sOf "row", sOf "row"]) (by decide +kernel)
        refine ⟨_, rfl, ?_⟩
        exact tk_ifF (TB.cast (tb_cmp (TV.castL (j := [.str (sOf "row"), .str (sOf "row")]) (tv_lcM (α := DT) (l := [.int 1, .non]) (g := id) (f := fun _ => .str (sOf "row")) (own := [("_law_wide", 5)]) (t := .nm 5) (by walk_at "tgt") (by walk_at "blk") (by decide) (tvi_tup (TV.cast (tv_tup (tva_cons (by walk_at "v" : TV _ _ _ _ (.int 1)) (tva_cons (by walk_at "v" : TV _ _ _ _ .non) tva_nil))) (congrArg DT.tup (List.map_id _).symm))) (Nat.le_of_ble_eq_true rfl) (fun _ _ => rfl)
          (fun z hz => tv_own (d := .str (sOf "row")) LT (by walk_at "k") (by rfl) (by walk_at "va" : TVA _ _ _ _ [.int 1, y, z]) (fun q => ⟨1, y, z, _, rfl, .row (nr_rw hy), q⟩))) rfl) (TV.castL (j := [.str (sOf "row"), .str (sOf "row")]) (tv_bin (tv_lst (tva_cons (by walk_at "v" : TV _ _ _ _ (.str (sOf "row"))) tva_nil)) (by walk_at "v" : TV _ _ _ _ (.int 2)) (po_rep lsX_l (by decide) (by decide) (by decide))) (by rfl)) (po_neT (n := 2) (m := 2) sm sh2 sh2 (by decide) (by decide)) (by rfl)) (by rw [eqT_slf6 (by rfl)]; rfl)) (tk_nil (tk_nil ⟨_, rfl, rfl⟩))
      rintro ρ2 σ3 ⟨b4, rfl, rfl⟩
      have wok := noW_ok r1 r200
      have wln := noW_len r.length
      refine tk_ifF (TB.cast (tb_cmp (TV.castL (j := []) (tv_lc (α := DT) (l := noW r.length) (g := id) (f := id) (tt := fun _ => false) (own := [("_law_value", 4)]) (t := .nm 4) (by walk_at "tgt") (by walk_at "blk") (by decide) (tvi_lst (TV.castL (tv_own (d := .lst (noW r.length)) LN (by walk_at "k") (by rfl) (by walk_at "va" : TVA _ _ _ _ [.str r]) (fun q => ⟨r, rfl, r1, r200, q⟩)) (List.map_id _).symm)) (by omega) (fun _ _ => rfl)
        (fun y hy => ⟨TB.cast (tb_cmp (tv_own (d := .str (sOf "width")) LT (by walk_at "k") (by rfl) (by walk_at "va" : TVA _ _ _ _ [.int 1, .str r, y]) (fun q => ⟨1, .str r, y, _, rfl, .rwid hr (wok y hy).1 (wok y hy).2, q⟩)) (by walk_at "v" : TV _ _ _ _ (.str (sOf "width"))) po_neS (by rfl)) (by simp), fun z => nomatch z⟩)) (by simp)) (tv_lst tva_nil) (po_neNil sm (fun _ z => nomatch z)) (by rfl)) (by rfl)) (tk_nil ?_)
      refine tk_ifF (TB.cast (tb_cmp (tv_own (d := .str (sOf "fine")) LT (by walk_at "k") (by rfl) (tva_cons (by walk_at "v" : TV _ _ _ _ (.int 1)) (tva_cons (by walk_at "v" : TV _ _ _ _ (.str r)) (tva_cons (TV.castI (j := ((min 12 r.length : Nat) : Int)) (tv_callB (by rfl) (by walk_at "as") (by walk_at "bt") (tva_cons (by walk_at "v" : TV _ _ _ _ (.int 12)) (tva_cons (tv_callB (by rfl) (by walk_at "as") (by walk_at "bt") (by walk_at "va" : TVA _ _ _ _ [.str r]) (pf_lenS (by omega))) tva_nil)) pf_min2) (by omega)) tva_nil)))
        (fun q => ⟨1, .str r, .int ((min 12 r.length : Nat) : Int), _, rfl, .rgood hr (by omega) (by omega) (by omega), q⟩)) (by walk_at "v" : TV _ _ _ _ (.str (sOf "fine"))) po_neS (by rfl)) (by simp)) (tk_nil (tk_nil ?_))
      exact ⟨xs5, _, _, _, rfl, keep, rfl⟩
    · rintro ρ1 σ2 ⟨xs, a2, a3, a4, rfl, ok, rfl⟩
      exact tk_ret (by walk_at "v" : TV _ _ _ _ (.bl true)) (q _)
end
end Y

/-! ### the classes of exceptions -/
namespace Y
open PySem PySem.Spec PyProof.Rows L2 Z
def clsB : Stmt → List Stmt
  | .ClassDef _ _ _ b _ _ _ _ _ _ _ => b
  | _ => []
def excAllB (K : PySem.W.Frag) (cs ps is : List Addr) (we : Addr) : Bool := famB K cs we && (ps.all (fun C => PySem.W.excIn K C veB "ValueError.__new__") && is.all (oexB K))
theorem excAllB_ok {K : PySem.W.Frag} {cs ps is : List Addr} {we : Addr} (h : excAllB K cs ps is we = true) : Fam K cs we ∧ (∀ C ∈ ps, PySem.W.excIn K C veB "ValueError.__new__" = true) ∧ ∀ C ∈ is, oexB K C = true := by
  unfold excAllB at h
  simp only [Bool.and_eq_true, List.all_eq_true] at h
  exact ⟨famB_ok h.1, h.2.1, h.2.2⟩
abbrev s_i10 : Stmt := (clsB (top 2)).getD 0 (.Pass ⟨0, 0, 0, 0⟩)
theorem sc_i10 : FnScope ["self", "window"] ["self", "window"] (defScope s_i10) := ⟨rfl, rfl, rfl, by decide +kernel, rfl, by decide +kernel, by decide +kernel⟩
abbrev s_i11 : Stmt := (clsB (top 3)).getD 0 (.Pass ⟨0, 0, 0, 0⟩)
theorem sc_i11 : FnScope ["self", "fault"] ["self", "fault"] (defScope s_i11) := ⟨rfl, rfl, rfl, by decide +kernel, rfl, by decide +kernel, by decide +kernel⟩
abbrev s_i12 : Stmt := (clsB (top 4)).getD 0 (.Pass ⟨0, 0, 0, 0⟩)
theorem sc_i12 : FnScope ["self", "limit"] ["self", "limit"] (defScope s_i12) := ⟨rfl, rfl, rfl, by decide +kernel, rfl, by decide +kernel, by decide +kernel⟩
abbrev s_i13 : Stmt := (clsB (top 5)).getD 0 (.Pass ⟨0, 0, 0, 0⟩)
theorem sc_i13 : FnScope ["self", "index"] ["self", "index"] (defScope s_i13) := ⟨rfl, rfl, rfl, by decide +kernel, rfl, by decide +kernel, by decide +kernel⟩
end Y
/-! ### what the top has written; the head -/
namespace Y
open PySem PySem.Spec PyProof.Rows L2 Z
theorem gl_own {C : Addr} {F : PySem.W.Frag} {mg : Str → Option Value} {x : Str} (h : mg x = some (.ref C)) : GlT F mg x (.ref C) := ⟨_, .ref C, h, rfl, fun _ => .ref C⟩
theorem all_mk {l : PySem.W.OpenLaw} {w : World} {K : PySem.W.Frag} {h : Heap} {mg : Str → Option Value} {fa f0 f1 f2 f3 f4 f5 f6 f7 f8 f9 f10 f11 f12 f13 f14 f15 f16 f17 f18 f19 f20 f21 : Addr} (X : K.In h) (G : h.Ns mainGlobals mg) (hfa : mg "law" = some (.ref fa))
    {od0 an0 od1 an1 od2 an2 od3 an3 od4 an4 od5 an5 od6 an6 od7 an7 od8 an8 od9 an9 od10 an10 od11 an11 od12 an12 od13 an13 od14 an14 od15 an15 od16 an16 od17 an17 od18 an18 od19 an19 od20 an20 od21 an21 : Option Addr} {sl0 sl1 sl2 sl3 sl4 sl5 sl6 sl7 sl8 sl9 sl10 sl11 sl12 sl13 sl14 sl15 sl16 sl17 sl18 sl19 sl20 sl21 : Array (Option Value)} {oc0 kV0 dc0 pm0 cd0 ct0 oc1 kV1 dc1 pm1 cd1 ct1 oc2 kV2 dc2 pm2 cd2 ct2 oc3 kV3 dc3 pm3 cd3 ct3 oc4 kV4 dc4 pm4 cd4 ct4 oc5 kV5 dc5 pm5 cd5 ct5 oc6 kV6 dc6 pm6 cd6 ct6 oc7 kV7 dc7 pm7 cd7 ct7 oc8 kV8 dc8 pm8 cd8 ct8 oc9 kV9 dc9 pm9 cd9 ct9 oc10 kV10 dc10 pm10 cd10 ct10 oc11 kV11 dc11 pm11 cd11 ct11 oc12 kV12 dc12 pm12 cd12 ct12 oc13 kV13 dc13 pm13 cd13 ct13 oc14 kV14 dc14 pm14 cd14 ct14 oc15 kV15 dc15 pm15 cd15 ct15 oc16 kV16 dc16 pm16 cd16 ct16 oc17 kV17 dc17 pm17 cd17 ct17 oc18 kV18 dc18 pm18 cd18 ct18 oc19 kV19 dc19 pm19 cd19 ct19 oc20 kV20 dc20 pm20 cd20 ct20 oc21 kV21 dc21 pm21 cd21 ct21 : Value}
    (a0 : PySem.W.nsIn K mainGlobals "is_integer" = some (some (.ref f0))) (l0 : K.lookup f0 = some ⟨oc0, od0, .func (PySem.W.fnOf "is_integer" "is_integer" (defArgs s_is_integer) (defBody s_is_integer) (defScope s_is_integer) .none kV0 dc0 pm0 an0 cd0 ct0), sl0⟩) (c0 : PySem.W.codeIn K cd0 "is_integer" = true) (k0 : PySem.W.keepIn K (.ref f0) = true)
    (a1 : PySem.W.nsIn K mainGlobals "is_letters" = some (some (.ref f1))) (l1 : K.lookup f1 = some ⟨oc1, od1, .func (PySem.W.fnOf "is_letters" "is_letters" (defArgs s_is_letters) (defBody s_is_letters) (defScope s_is_letters) .none kV1 dc1 pm1 an1 cd1 ct1), sl1⟩) (c1 : PySem.W.codeIn K cd1 "is_letters" = true) (k1 : PySem.W.keepIn K (.ref f1) = true)
    (a2 : PySem.W.nsIn K mainGlobals "is_row" = some (some (.ref f2))) (l2 : K.lookup f2 = some ⟨oc2, od2, .func (PySem.W.fnOf "is_row" "is_row" (defArgs s_is_row) (defBody s_is_row) (defScope s_is_row) .none kV2 dc2 pm2 an2 cd2 ct2), sl2⟩) (c2 : PySem.W.codeIn K cd2 "is_row" = true) (k2 : PySem.W.keepIn K (.ref f2) = true)
    (a3 : PySem.W.nsIn K mainGlobals "check_row" = some (some (.ref f3))) (l3 : K.lookup f3 = some ⟨oc3, od3, .func (PySem.W.fnOf "check_row" "check_row" (defArgs s_check_row) (defBody s_check_row) (defScope s_check_row) .none kV3 dc3 pm3 an3 cd3 ct3), sl3⟩) (c3 : PySem.W.codeIn K cd3 "check_row" = true) (k3 : PySem.W.keepIn K (.ref f3) = true)
    (a4 : PySem.W.nsIn K mainGlobals "check_width" = some (some (.ref f4))) (l4 : K.lookup f4 = some ⟨oc4, od4, .func (PySem.W.fnOf "check_width" "check_width" (defArgs s_check_width) (defBody s_check_width) (defScope s_check_width) .none kV4 dc4 pm4 an4 cd4 ct4), sl4⟩) (c4 : PySem.W.codeIn K cd4 "check_width" = true) (k4 : PySem.W.keepIn K (.ref f4) = true)
    (a5 : PySem.W.nsIn K mainGlobals "windows_in" = some (some (.ref f5))) (l5 : K.lookup f5 = some ⟨oc5, od5, .func (PySem.W.fnOf "windows_in" "windows_in" (defArgs s_windows_in) (defBody s_windows_in) (defScope s_windows_in) .none kV5 dc5 pm5 an5 cd5 ct5), sl5⟩) (c5 : PySem.W.codeIn K cd5 "windows_in" = true) (k5 : PySem.W.keepIn K (.ref f5) = true)
    (a6 : PySem.W.nsIn K mainGlobals "counts_in" = some (some (.ref f6))) (l6 : K.lookup f6 = some ⟨oc6, od6, .func (PySem.W.fnOf "counts_in" "counts_in" (defArgs s_counts_in) (defBody s_counts_in) (defScope s_counts_in) .none kV6 dc6 pm6 an6 cd6 ct6), sl6⟩) (c6 : PySem.W.codeIn K cd6 "counts_in" = true) (k6 : PySem.W.keepIn K (.ref f6) = true)
    (a7 : PySem.W.nsIn K mainGlobals "most_windows" = some (some (.ref f7))) (l7 : K.lookup f7 = some ⟨oc7, od7, .func (PySem.W.fnOf "most_windows" "most_windows" (defArgs s_most_windows) (defBody s_most_windows) (defScope s_most_windows) .none kV7 dc7 pm7 an7 cd7 ct7), sl7⟩) (c7 : PySem.W.codeIn K cd7 "most_windows" = true) (k7 : PySem.W.keepIn K (.ref f7) = true)
    (a8 : PySem.W.nsIn K mainGlobals "is_counts" = some (some (.ref f8))) (l8 : K.lookup f8 = some ⟨oc8, od8, .func (PySem.W.fnOf "is_counts" "is_counts" (defArgs s_is_counts) (defBody s_is_counts) (defScope s_is_counts) .none kV8 dc8 pm8 an8 cd8 ct8), sl8⟩) (c8 : PySem.W.codeIn K cd8 "is_counts" = true) (k8 : PySem.W.keepIn K (.ref f8) = true)
    (a9 : PySem.W.nsIn K mainGlobals "check_table" = some (some (.ref f9))) (l9 : K.lookup f9 = some ⟨oc9, od9, .func (PySem.W.fnOf "check_table" "check_table" (defArgs s_check_table) (defBody s_check_table) (defScope s_check_table) .none kV9 dc9 pm9 an9 cd9 ct9), sl9⟩) (c9 : PySem.W.codeIn K cd9 "check_table" = true) (k9 : PySem.W.keepIn K (.ref f9) = true)
    (a10 : PySem.W.nsIn K mainGlobals "_law_reel" = some (some (.ref f10))) (l10 : K.lookup f10 = some ⟨oc10, od10, .func (PySem.W.fnOf "_law_reel" "_law_reel" (defArgs s_law_reel) (defBody s_law_reel) (defScope s_law_reel) .none kV10 dc10 pm10 an10 cd10 ct10), sl10⟩) (c10 : PySem.W.codeIn K cd10 "_law_reel" = true) (k10 : PySem.W.keepIn K (.ref f10) = true)
    (a11 : PySem.W.nsIn K mainGlobals "_law_draw" = some (some (.ref f11))) (l11 : K.lookup f11 = some ⟨oc11, od11, .func (PySem.W.fnOf "_law_draw" "_law_draw" (defArgs s_law_draw) (defBody s_law_draw) (defScope s_law_draw) .none kV11 dc11 pm11 an11 cd11 ct11), sl11⟩) (c11 : PySem.W.codeIn K cd11 "_law_draw" = true) (k11 : PySem.W.keepIn K (.ref f11) = true)
    (a12 : PySem.W.nsIn K mainGlobals "_law_word" = some (some (.ref f12))) (l12 : K.lookup f12 = some ⟨oc12, od12, .func (PySem.W.fnOf "_law_word" "_law_word" (defArgs s_law_word) (defBody s_law_word) (defScope s_law_word) .none kV12 dc12 pm12 an12 cd12 ct12), sl12⟩) (c12 : PySem.W.codeIn K cd12 "_law_word" = true) (k12 : PySem.W.keepIn K (.ref f12) = true)
    (a13 : PySem.W.nsIn K mainGlobals "_law_no_rows" = some (some (.ref f13))) (l13 : K.lookup f13 = some ⟨oc13, od13, .func (PySem.W.fnOf "_law_no_rows" "_law_no_rows" (defArgs s_law_no_rows) (defBody s_law_no_rows) (defScope s_law_no_rows) .none kV13 dc13 pm13 an13 cd13 ct13), sl13⟩) (c13 : PySem.W.codeIn K cd13 "_law_no_rows" = true) (k13 : PySem.W.keepIn K (.ref f13) = true)
    (a14 : PySem.W.nsIn K mainGlobals "_law_no_widths" = some (some (.ref f14))) (l14 : K.lookup f14 = some ⟨oc14, od14, .func (PySem.W.fnOf "_law_no_widths" "_law_no_widths" (defArgs s_law_no_widths) (defBody s_law_no_widths) (defScope s_law_no_widths) .none kV14 dc14 pm14 an14 cd14 ct14), sl14⟩) (c14 : PySem.W.codeIn K cd14 "_law_no_widths" = true) (k14 : PySem.W.keepIn K (.ref f14) = true)
    (a15 : PySem.W.nsIn K mainGlobals "_law_kind" = some (some (.ref f15))) (l15 : K.lookup f15 = some ⟨oc15, od15, .func (PySem.W.fnOf "_law_kind" "_law_kind" (defArgs s_law_kind) (defBody s_law_kind) (defScope s_law_kind) .none kV15 dc15 pm15 an15 cd15 ct15), sl15⟩) (c15 : PySem.W.codeIn K cd15 "_law_kind" = true) (k15 : PySem.W.keepIn K (.ref f15) = true)
    (a16 : PySem.W.nsIn K mainGlobals "_law_dict" = some (some (.ref f16))) (l16 : K.lookup f16 = some ⟨oc16, od16, .func (PySem.W.fnOf "_law_dict" "_law_dict" (defArgs s_law_dict) (defBody s_law_dict) (defScope s_law_dict) .none kV16 dc16 pm16 an16 cd16 ct16), sl16⟩) (c16 : PySem.W.codeIn K cd16 "_law_dict" = true) (k16 : PySem.W.keepIn K (.ref f16) = true)
    (a17 : PySem.W.nsIn K mainGlobals "_law_told" = some (some (.ref f17))) (l17 : K.lookup f17 = some ⟨oc17, od17, .func (PySem.W.fnOf "_law_told" "_law_told" (defArgs s_law_told) (defBody s_law_told) (defScope s_law_told) .none kV17 dc17 pm17 an17 cd17 ct17), sl17⟩) (c17 : PySem.W.codeIn K cd17 "_law_told" = true) (k17 : PySem.W.keepIn K (.ref f17) = true)
    (a18 : PySem.W.nsIn K mainGlobals "_law_no_counts" = some (some (.ref f18))) (l18 : K.lookup f18 = some ⟨oc18, od18, .func (PySem.W.fnOf "_law_no_counts" "_law_no_counts" (defArgs s_law_no_counts) (defBody s_law_no_counts) (defScope s_law_no_counts) .none kV18 dc18 pm18 an18 cd18 ct18), sl18⟩) (c18 : PySem.W.codeIn K cd18 "_law_no_counts" = true) (k18 : PySem.W.keepIn K (.ref f18) = true)
    (a19 : PySem.W.nsIn K mainGlobals "_law_no_windows" = some (some (.ref f19))) (l19 : K.lookup f19 = some ⟨oc19, od19, .func (PySem.W.fnOf "_law_no_windows" "_law_no_windows" (defArgs s_law_no_windows) (defBody s_law_no_windows) (defScope s_law_no_windows) .none kV19 dc19 pm19 an19 cd19 ct19), sl19⟩) (c19 : PySem.W.codeIn K cd19 "_law_no_windows" = true) (k19 : PySem.W.keepIn K (.ref f19) = true)
    (a20 : PySem.W.nsIn K mainGlobals "_law_right" = some (some (.ref f20))) (l20 : K.lookup f20 = some ⟨oc20, od20, .func (PySem.W.fnOf "_law_right" "_law_right" (defArgs s_law_right) (defBody s_law_right) (defScope s_law_right) .none kV20 dc20 pm20 an20 cd20 ct20), sl20⟩) (c20 : PySem.W.codeIn K cd20 "_law_right" = true) (k20 : PySem.W.keepIn K (.ref f20) = true)
    (a21 : PySem.W.nsIn K mainGlobals "law" = some (some (.ref f21))) (l21 : K.lookup f21 = some ⟨oc21, od21, .func (PySem.W.fnOf "law" "law" (defArgs s_law) (defBody s_law) (defScope s_law) .none kV21 dc21 pm21 an21 cd21 ct21), sl21⟩) (c21 : PySem.W.codeIn K cd21 "law" = true) (k21 : PySem.W.keepIn K (.ref f21) = true)
    {t0 : Tok} (qc0 : PySem.W.nsIn K mainGlobals "LETTERS" = some (some (.str "abcdefghijklmnopqrstuvwxyz" t0)))
    {t1 : Tok} (qc1 : PySem.W.nsIn K mainGlobals "MOST_LETTERS" = some (some (.int 200 t1)))
    {t2 : Tok} (qc2 : PySem.W.nsIn K mainGlobals "WIDEST" = some (some (.int 12 t2)))
    (z0 : PySem.W.nsIn K mainGlobals "isinstance" = some none)
    (z1 : PySem.W.nsIn K mainGlobals "len" = some none)
    (z2 : PySem.W.nsIn K mainGlobals "all" = some none)
    (z3 : PySem.W.nsIn K mainGlobals "str" = some none)
    (z4 : PySem.W.nsIn K mainGlobals "int" = some none)
    (z5 : PySem.W.nsIn K mainGlobals "bool" = some none)
    (z6 : PySem.W.nsIn K mainGlobals "tuple" = some none)
    (z7 : PySem.W.nsIn K mainGlobals "range" = some none)
    (z8 : PySem.W.nsIn K mainGlobals "min" = some none)
    (z9 : PySem.W.nsIn K mainGlobals "repr" = some none)
    (z10 : PySem.W.nsIn K mainGlobals "list" = some none)
    (z11 : PySem.W.nsIn K mainGlobals "dict" = some none)
    (z12 : PySem.W.nsIn K mainGlobals "sum" = some none)
    (z13 : PySem.W.nsIn K mainGlobals "sorted" = some none)
    (z14 : PySem.W.nsIn K mainGlobals "ValueError" = some none)
    {C0 : Addr} (u0 : PySem.W.nsIn K mainGlobals "Table" = some (some (.ref C0)))
    (up0 : PySem.W.plainGet K C0 Str.empty = true)
    (uh0 : PySem.W.hasDictIn K C0 = true)
    (uo0 : PySem.W.plainOver K C0 = true)
    (us0 : PySem.W.findIn K (.ref C0) "__setattr__" = some (some (.builtin "object.__setattr__")))
    (ua0 : PySem.W.findIn K (.ref C0) "__class__" = some (some (.builtin "object.__class__")))
    (ut0 : PySem.W.mroIn K C0 (.type "object") = some true)
    (uk0 : PySem.W.keepIn K (.ref C0) = true)
    (uw0 : PySem.W.ownB K C0 = true)
    (ur0 : PySem.W.readsIn K C0 (.type "type") = true) (ug0 : PySem.W.specialIn K (.ref C0) "__getattribute__" = some (some (.builtin "type.__getattribute__")))
    (uf0_0 : PySem.W.findIn K (.ref C0) "letters" = some none)
    (uf0_1 : PySem.W.findIn K (.ref C0) "found" = some none)
    (oc1 : PySem.W.specialIn K (.builtin "object.__class__") "__get__" = some (some (.builtin "getset_descriptor.__get__"))) (oc2 : PySem.W.takesIn K (.builtin "object.__class__") = some true)
    {mf0 : Addr} {mod0 man0 : Option Addr} {msl0 : Array (Option Value)} {moc0 mkV0 mdc0 mpm0 mcd0 mct0 : Value}
    (ma0 : PySem.W.findIn K (.ref C0) "__init__" = some (some (.ref mf0))) (mb0 : PySem.W.makesIn K C0 = true) (mc0 : PySem.W.isFn K (.ref mf0) = true)
    (ml0 : K.lookup mf0 = some ⟨moc0, mod0, .func (PySem.W.fnOf "__init__" "Table.__init__" (defArgs s_Table_init) (defBody s_Table_init) (defScope s_Table_init) .none mkV0 mdc0 mpm0 man0 mcd0 mct0), msl0⟩) (mg0 : PySem.W.codeIn K mcd0 "Table.__init__" = true) (mk0 : PySem.W.keepIn K (.ref mf0) = true)
    {mf1 : Addr} {mod1 man1 : Option Addr} {msl1 : Array (Option Value)} {moc1 mkV1 mdc1 mpm1 mcd1 mct1 : Value}
    {mp1 : Addr} {mre1 : List Value}
    (ma1 : PySem.W.findCls K (.ref C0) (.type "type") "of" = some (.get (.builtin "classmethod.__get__") (.ref mp1) .none (.ref C0))) (mb1 : PySem.W.recIn K mp1 "classmethod" = some (.ref mf1 :: mre1)) (mc1 : PySem.W.fnIn K mf1 = true)
    (ml1 : K.lookup mf1 = some ⟨moc1, mod1, .func (PySem.W.fnOf "of" "Table.of" (defArgs s_Table_of) (defBody s_Table_of) (defScope s_Table_of) .none mkV1 mdc1 mpm1 man1 mcd1 mct1), msl1⟩) (mg1 : PySem.W.codeIn K mcd1 "Table.of" = true) (mk1 : PySem.W.keepIn K (.ref mf1) = true)
    {mf2 : Addr} {mod2 man2 : Option Addr} {msl2 : Array (Option Value)} {moc2 mkV2 mdc2 mpm2 mcd2 mct2 : Value}
    {mp2 : Addr} {mre2 : List Value}
    (ma2 : PySem.W.findIn K (.ref C0) "width" = some (some (.ref mp2))) (mb2 : PySem.W.specialIn K (.ref mp2) "__get__" = some (some (.builtin "property.__get__"))) (mc2 : PySem.W.takesIn K (.ref mp2) = some true) (md2 : PySem.W.recIn K mp2 "property" = some (.ref mf2 :: mre2))
    (ml2 : K.lookup mf2 = some ⟨moc2, mod2, .func (PySem.W.fnOf "width" "Table.width" (defArgs s_Table_width) (defBody s_Table_width) (defScope s_Table_width) .none mkV2 mdc2 mpm2 man2 mcd2 mct2), msl2⟩) (mg2 : PySem.W.codeIn K mcd2 "Table.width" = true) (mk2 : PySem.W.keepIn K (.ref mf2) = true)
    {mf3 : Addr} {mod3 man3 : Option Addr} {msl3 : Array (Option Value)} {moc3 mkV3 mdc3 mpm3 mcd3 mct3 : Value}
    {mp3 : Addr} {mre3 : List Value}
    (ma3 : PySem.W.findIn K (.ref C0) "counts" = some (some (.ref mp3))) (mb3 : PySem.W.specialIn K (.ref mp3) "__get__" = some (some (.builtin "property.__get__"))) (mc3 : PySem.W.takesIn K (.ref mp3) = some true) (md3 : PySem.W.recIn K mp3 "property" = some (.ref mf3 :: mre3))
    (ml3 : K.lookup mf3 = some ⟨moc3, mod3, .func (PySem.W.fnOf "counts" "Table.counts" (defArgs s_Table_counts) (defBody s_Table_counts) (defScope s_Table_counts) .none mkV3 mdc3 mpm3 man3 mcd3 mct3), msl3⟩) (mg3 : PySem.W.codeIn K mcd3 "Table.counts" = true) (mk3 : PySem.W.keepIn K (.ref mf3) = true)
    {mf4 : Addr} {mod4 man4 : Option Addr} {msl4 : Array (Option Value)} {moc4 mkV4 mdc4 mpm4 mcd4 mct4 : Value}
    {mp4 : Addr} {mre4 : List Value}
    (ma4 : PySem.W.findIn K (.ref C0) "total" = some (some (.ref mp4))) (mb4 : PySem.W.specialIn K (.ref mp4) "__get__" = some (some (.builtin "property.__get__"))) (mc4 : PySem.W.takesIn K (.ref mp4) = some true) (md4 : PySem.W.recIn K mp4 "property" = some (.ref mf4 :: mre4))
    (ml4 : K.lookup mf4 = some ⟨moc4, mod4, .func (PySem.W.fnOf "total" "Table.total" (defArgs s_Table_total) (defBody s_Table_total) (defScope s_Table_total) .none mkV4 mdc4 mpm4 man4 mcd4 mct4), msl4⟩) (mg4 : PySem.W.codeIn K mcd4 "Table.total" = true) (mk4 : PySem.W.keepIn K (.ref mf4) = true)
    {mf5 : Addr} {mod5 man5 : Option Addr} {msl5 : Array (Option Value)} {moc5 mkV5 mdc5 mpm5 mcd5 mct5 : Value}
    (ma5 : PySem.W.findIn K (.ref C0) "times_of" = some (some (.ref mf5))) (mb5 : PySem.W.isFn K (.ref mf5) = true)
    (ml5 : K.lookup mf5 = some ⟨moc5, mod5, .func (PySem.W.fnOf "times_of" "Table.times_of" (defArgs s_Table_times_of) (defBody s_Table_times_of) (defScope s_Table_times_of) .none mkV5 mdc5 mpm5 man5 mcd5 mct5), msl5⟩) (mg5 : PySem.W.codeIn K mcd5 "Table.times_of" = true) (mk5 : PySem.W.keepIn K (.ref mf5) = true)
    {mf6 : Addr} {mod6 man6 : Option Addr} {msl6 : Array (Option Value)} {moc6 mkV6 mdc6 mpm6 mcd6 mct6 : Value}
    (ma6 : PySem.W.findIn K (.ref C0) "check_other" = some (some (.ref mf6))) (mb6 : PySem.W.isFn K (.ref mf6) = true)
    (ml6 : K.lookup mf6 = some ⟨moc6, mod6, .func (PySem.W.fnOf "check_other" "Table.check_other" (defArgs s_Table_check_other) (defBody s_Table_check_other) (defScope s_Table_check_other) .none mkV6 mdc6 mpm6 man6 mcd6 mct6), msl6⟩) (mg6 : PySem.W.codeIn K mcd6 "Table.check_other" = true) (mk6 : PySem.W.keepIn K (.ref mf6) = true)
    {mf7 : Addr} {mod7 man7 : Option Addr} {msl7 : Array (Option Value)} {moc7 mkV7 mdc7 mpm7 mcd7 mct7 : Value}
    (ma7 : PySem.W.findIn K (.ref C0) "check_size" = some (some (.ref mf7))) (mb7 : PySem.W.isFn K (.ref mf7) = true)
    (ml7 : K.lookup mf7 = some ⟨moc7, mod7, .func (PySem.W.fnOf "check_size" "Table.check_size" (defArgs s_Table_check_size) (defBody s_Table_check_size) (defScope s_Table_check_size) .none mkV7 mdc7 mpm7 man7 mcd7 mct7), msl7⟩) (mg7 : PySem.W.codeIn K mcd7 "Table.check_size" = true) (mk7 : PySem.W.keepIn K (.ref mf7) = true)
    {mf8 : Addr} {mod8 man8 : Option Addr} {msl8 : Array (Option Value)} {moc8 mkV8 mdc8 mpm8 mcd8 mct8 : Value}
    (ma8 : PySem.W.findIn K (.ref C0) "__add__" = some (some (.ref mf8))) (mb8 : PySem.W.isFn K (.ref mf8) = true)
    (ml8 : K.lookup mf8 = some ⟨moc8, mod8, .func (PySem.W.fnOf "__add__" "Table.__add__" (defArgs s_Table_add) (defBody s_Table_add) (defScope s_Table_add) .none mkV8 mdc8 mpm8 man8 mcd8 mct8), msl8⟩) (mg8 : PySem.W.codeIn K mcd8 "Table.__add__" = true) (mk8 : PySem.W.keepIn K (.ref mf8) = true)
    {mf9 : Addr} {mod9 man9 : Option Addr} {msl9 : Array (Option Value)} {moc9 mkV9 mdc9 mpm9 mcd9 mct9 : Value}
    (ma9 : PySem.W.findIn K (.ref C0) "__sub__" = some (some (.ref mf9))) (mb9 : PySem.W.isFn K (.ref mf9) = true)
    (ml9 : K.lookup mf9 = some ⟨moc9, mod9, .func (PySem.W.fnOf "__sub__" "Table.__sub__" (defArgs s_Table_sub) (defBody s_Table_sub) (defScope s_Table_sub) .none mkV9 mdc9 mpm9 man9 mcd9 mct9), msl9⟩) (mg9 : PySem.W.codeIn K mcd9 "Table.__sub__" = true) (mk9 : PySem.W.keepIn K (.ref mf9) = true)
    {mf10 : Addr} {mod10 man10 : Option Addr} {msl10 : Array (Option Value)} {moc10 mkV10 mdc10 mpm10 mcd10 mct10 : Value}
    (ma10 : PySem.W.findIn K (.ref C0) "__mul__" = some (some (.ref mf10))) (mb10 : PySem.W.isFn K (.ref mf10) = true)
    (ml10 : K.lookup mf10 = some ⟨moc10, mod10, .func (PySem.W.fnOf "__mul__" "Table.__mul__" (defArgs s_Table_mul) (defBody s_Table_mul) (defScope s_Table_mul) .none mkV10 mdc10 mpm10 man10 mcd10 mct10), msl10⟩) (mg10 : PySem.W.codeIn K mcd10 "Table.__mul__" = true) (mk10 : PySem.W.keepIn K (.ref mf10) = true)
    {mf11 : Addr} {mod11 man11 : Option Addr} {msl11 : Array (Option Value)} {moc11 mkV11 mdc11 mpm11 mcd11 mct11 : Value}
    (ma11 : PySem.W.findIn K (.ref C0) "__invert__" = some (some (.ref mf11))) (mb11 : PySem.W.isFn K (.ref mf11) = true)
    (ml11 : K.lookup mf11 = some ⟨moc11, mod11, .func (PySem.W.fnOf "__invert__" "Table.__invert__" (defArgs s_Table_invert) (defBody s_Table_invert) (defScope s_Table_invert) .none mkV11 mdc11 mpm11 man11 mcd11 mct11), msl11⟩) (mg11 : PySem.W.codeIn K mcd11 "Table.__invert__" = true) (mk11 : PySem.W.keepIn K (.ref mf11) = true)
    {mf12 : Addr} {mod12 man12 : Option Addr} {msl12 : Array (Option Value)} {moc12 mkV12 mdc12 mpm12 mcd12 mct12 : Value}
    (ma12 : PySem.W.findIn K (.ref C0) "__contains__" = some (some (.ref mf12))) (mb12 : PySem.W.isFn K (.ref mf12) = true)
    (ml12 : K.lookup mf12 = some ⟨moc12, mod12, .func (PySem.W.fnOf "__contains__" "Table.__contains__" (defArgs s_Table_contains) (defBody s_Table_contains) (defScope s_Table_contains) .none mkV12 mdc12 mpm12 man12 mcd12 mct12), msl12⟩) (mg12 : PySem.W.codeIn K mcd12 "Table.__contains__" = true) (mk12 : PySem.W.keepIn K (.ref mf12) = true)
    {mf13 : Addr} {mod13 man13 : Option Addr} {msl13 : Array (Option Value)} {moc13 mkV13 mdc13 mpm13 mcd13 mct13 : Value}
    (ma13 : PySem.W.findIn K (.ref C0) "__len__" = some (some (.ref mf13))) (mb13 : PySem.W.isFn K (.ref mf13) = true)
    (ml13 : K.lookup mf13 = some ⟨moc13, mod13, .func (PySem.W.fnOf "__len__" "Table.__len__" (defArgs s_Table_len) (defBody s_Table_len) (defScope s_Table_len) .none mkV13 mdc13 mpm13 man13 mcd13 mct13), msl13⟩) (mg13 : PySem.W.codeIn K mcd13 "Table.__len__" = true) (mk13 : PySem.W.keepIn K (.ref mf13) = true)
    {mf14 : Addr} {mod14 man14 : Option Addr} {msl14 : Array (Option Value)} {moc14 mkV14 mdc14 mpm14 mcd14 mct14 : Value}
    (ma14 : PySem.W.findIn K (.ref C0) "__eq__" = some (some (.ref mf14))) (mb14 : PySem.W.isFn K (.ref mf14) = true)
    (ml14 : K.lookup mf14 = some ⟨moc14, mod14, .func (PySem.W.fnOf "__eq__" "Table.__eq__" (defArgs s_Table_eq) (defBody s_Table_eq) (defScope s_Table_eq) .none mkV14 mdc14 mpm14 man14 mcd14 mct14), msl14⟩) (mg14 : PySem.W.codeIn K mcd14 "Table.__eq__" = true) (mk14 : PySem.W.keepIn K (.ref mf14) = true)
    {mf15 : Addr} {mod15 man15 : Option Addr} {msl15 : Array (Option Value)} {moc15 mkV15 mdc15 mpm15 mcd15 mct15 : Value}
    (ma15 : PySem.W.findIn K (.ref C0) "__call__" = some (some (.ref mf15))) (mb15 : PySem.W.isFn K (.ref mf15) = true)
    (ml15 : K.lookup mf15 = some ⟨moc15, mod15, .func (PySem.W.fnOf "__call__" "Table.__call__" (defArgs s_Table_call) (defBody s_Table_call) (defScope s_Table_call) .none mkV15 mdc15 mpm15 man15 mcd15 mct15), msl15⟩) (mg15 : PySem.W.codeIn K mcd15 "Table.__call__" = true) (mk15 : PySem.W.keepIn K (.ref mf15) = true)
    {c_0 c_1 c_2 c_3 c_4 c_5 c_6 c_7 c_8 c_9 c_10 c_11 c_12 c_13 cw : Addr} {fi10 fi11 fi12 fi13 : Addr} {iod10 ian10 iod11 ian11 iod12 ian12 iod13 ian13 : Option Addr} {isl10 isl11 isl12 isl13 : Array (Option Value)} {ioc10 ikV10 idc10 ipm10 icd10 ict10 ioc11 ikV11 idc11 ipm11 icd11 ict11 ioc12 ikV12 idc12 ipm12 icd12 ict12 ioc13 ikV13 idc13 ipm13 icd13 ict13 : Value}
    (e0 : PySem.W.nsIn K mainGlobals "InvalidRow" = some (some (.ref c_0)))
    (e1 : PySem.W.nsIn K mainGlobals "InvalidWidth" = some (some (.ref c_1)))
    (e2 : PySem.W.nsIn K mainGlobals "InvalidCounts" = some (some (.ref c_2)))
    (e3 : PySem.W.nsIn K mainGlobals "InvalidTable" = some (some (.ref c_3)))
    (e4 : PySem.W.nsIn K mainGlobals "InvalidWindow" = some (some (.ref c_4)))
    (e5 : PySem.W.nsIn K mainGlobals "InvalidMove" = some (some (.ref c_5)))
    (e6 : PySem.W.nsIn K mainGlobals "InvalidNumber" = some (some (.ref c_6)))
    (e7 : PySem.W.nsIn K mainGlobals "InvalidCommand" = some (some (.ref c_7)))
    (e8 : PySem.W.nsIn K mainGlobals "Different" = some (some (.ref c_8)))
    (e9 : PySem.W.nsIn K mainGlobals "NothingToUndo" = some (some (.ref c_9)))
    (e10 : PySem.W.nsIn K mainGlobals "Missing" = some (some (.ref c_10)))
    (e11 : PySem.W.nsIn K mainGlobals "NoRow" = some (some (.ref c_11)))
    (e12 : PySem.W.nsIn K mainGlobals "TooLarge" = some (some (.ref c_12)))
    (e13 : PySem.W.nsIn K mainGlobals "InvalidText" = some (some (.ref c_13)))
    (e14 : PySem.W.nsIn K mainGlobals "WindowError" = some (some (.ref cw)))
    (xb : excAllB K [c_0, c_1, c_2, c_3, c_4, c_5, c_6, c_7, c_8, c_9, c_10, c_11, c_12, c_13] [c_0, c_1, c_2, c_3, c_4, c_5, c_6, c_7, c_8, c_9, cw] [c_10, c_11, c_12, c_13] cw = true)
    (xb2 : famXB K [c_0, c_1, c_2, c_3, c_4, c_5, c_6, c_7, c_8, c_9, c_10, c_11, c_12, c_13] cw = true)
    (wr : PySem.W.readsIn K cw (.type "type") = true) (wg : PySem.W.specialIn K (.ref cw) "__getattribute__" = some (some (.builtin "type.__getattribute__"))) (wi : PySem.W.findCls K (.ref cw) (.type "type") "__init__" = some (.val (.builtin "ValueError.__init__")))
    (ia10 : PySem.W.findIn K (.ref c_10) "__setattr__" = some (some (.builtin "object.__setattr__"))) (ib10 : PySem.W.findIn K (.ref c_10) "__init__" = some (some (.ref fi10))) (ic10 : PySem.W.typeIn K (.ref fi10) = some (.type "function")) (ie10 : PySem.W.findIn K (.ref c_10) "window" = some none)
    (il10 : K.lookup fi10 = some ⟨ioc10, iod10, .func (PySem.W.fnOf "__init__" "Missing.__init__" (defArgs s_i10) (defBody s_i10) (defScope s_i10) .none ikV10 idc10 ipm10 ian10 icd10 ict10), isl10⟩) (ig10 : PySem.W.codeIn K icd10 "Missing.__init__" = true) (ik10 : PySem.W.keepIn K (.ref fi10) = true)
    (ia11 : PySem.W.findIn K (.ref c_11) "__setattr__" = some (some (.builtin "object.__setattr__"))) (ib11 : PySem.W.findIn K (.ref c_11) "__init__" = some (some (.ref fi11))) (ic11 : PySem.W.typeIn K (.ref fi11) = some (.type "function")) (ie11 : PySem.W.findIn K (.ref c_11) "fault" = some none)
    (il11 : K.lookup fi11 = some ⟨ioc11, iod11, .func (PySem.W.fnOf "__init__" "NoRow.__init__" (defArgs s_i11) (defBody s_i11) (defScope s_i11) .none ikV11 idc11 ipm11 ian11 icd11 ict11), isl11⟩) (ig11 : PySem.W.codeIn K icd11 "NoRow.__init__" = true) (ik11 : PySem.W.keepIn K (.ref fi11) = true)
    (ia12 : PySem.W.findIn K (.ref c_12) "__setattr__" = some (some (.builtin "object.__setattr__"))) (ib12 : PySem.W.findIn K (.ref c_12) "__init__" = some (some (.ref fi12))) (ic12 : PySem.W.typeIn K (.ref fi12) = some (.type "function")) (ie12 : PySem.W.findIn K (.ref c_12) "limit" = some none)
    (il12 : K.lookup fi12 = some ⟨ioc12, iod12, .func (PySem.W.fnOf "__init__" "TooLarge.__init__" (defArgs s_i12) (defBody s_i12) (defScope s_i12) .none ikV12 idc12 ipm12 ian12 icd12 ict12), isl12⟩) (ig12 : PySem.W.codeIn K icd12 "TooLarge.__init__" = true) (ik12 : PySem.W.keepIn K (.ref fi12) = true)
    (ia13 : PySem.W.findIn K (.ref c_13) "__setattr__" = some (some (.builtin "object.__setattr__"))) (ib13 : PySem.W.findIn K (.ref c_13) "__init__" = some (some (.ref fi13))) (ic13 : PySem.W.typeIn K (.ref fi13) = some (.type "function")) (ie13 : PySem.W.findIn K (.ref c_13) "index" = some none)
    (il13 : K.lookup fi13 = some ⟨ioc13, iod13, .func (PySem.W.fnOf "__init__" "InvalidText.__init__" (defArgs s_i13) (defBody s_i13) (defScope s_i13) .none ikV13 idc13 ipm13 ian13 icd13 ict13), isl13⟩) (ig13 : PySem.W.codeIn K icd13 "InvalidText.__init__" = true) (ik13 : PySem.W.keepIn K (.ref fi13) = true)
    : ∃ fd : FuncData, (∀ (s : Shared) (v : Value), BindsTo s fd ⟨[v], []⟩ [("_law_script", v)]) ∧ ∀ base : Heap, K.In base → base.Ns mainGlobals mg → (∃ ob, base.get? sysModules = some ob) → FnG l.prog w K mg base 8 fa fd ["_law_script"] (spT K lawSpec) := by
  have e := hfa.symm.trans (PySem.W.mg_of X G a21)
  cases e
  have F_is_integer := fun_mk (st := s_is_integer) l0 c0 k0
  have D_is_integer : DfN K mg "is_integer" ["value", "low", "high"] s_is_integer := ⟨_, _, PySem.W.mg_of X G a0, F_is_integer, F_is_integer.binds (ps := ["value", "low", "high"]) fun _ _ _ _ _ _ us hl => match us, hl with | [_, _, _], _ => rfl⟩
  have F_is_letters := fun_mk (st := s_is_letters) l1 c1 k1
  have D_is_letters : DfN K mg "is_letters" ["value", "low", "high"] s_is_letters := ⟨_, _, PySem.W.mg_of X G a1, F_is_letters, F_is_letters.binds (ps := ["value", "low", "high"]) fun _ _ _ _ _ _ us hl => match us, hl with | [_, _, _], _ => rfl⟩
  have F_is_row := fun_mk (st := s_is_row) l2 c2 k2
  have D_is_row : DfN K mg "is_row" ["value"] s_is_row := ⟨_, _, PySem.W.mg_of X G a2, F_is_row, F_is_row.binds (ps := ["value"]) fun _ _ _ _ _ _ us hl => match us, hl with | [_], _ => rfl⟩
  have F_check_row := fun_mk (st := s_check_row) l3 c3 k3
  have D_check_row : DfN K mg "check_row" ["value"] s_check_row := ⟨_, _, PySem.W.mg_of X G a3, F_check_row, F_check_row.binds (ps := ["value"]) fun _ _ _ _ _ _ us hl => match us, hl with | [_], _ => rfl⟩
  have F_check_width := fun_mk (st := s_check_width) l4 c4 k4
  have D_check_width : DfN K mg "check_width" ["row", "value"] s_check_width := ⟨_, _, PySem.W.mg_of X G a4, F_check_width, F_check_width.binds (ps := ["row", "value"]) fun _ _ _ _ _ _ us hl => match us, hl with | [_, _], _ => rfl⟩
  have F_windows_in := fun_mk (st := s_windows_in) l5 c5 k5
  have D_windows_in : DfN K mg "windows_in" ["row", "width"] s_windows_in := ⟨_, _, PySem.W.mg_of X G a5, F_windows_in, F_windows_in.binds (ps := ["row", "width"]) fun _ _ _ _ _ _ us hl => match us, hl with | [_, _], _ => rfl⟩
  have F_counts_in := fun_mk (st := s_counts_in) l6 c6 k6
  have D_counts_in : DfN K mg "counts_in" ["row", "width"] s_counts_in := ⟨_, _, PySem.W.mg_of X G a6, F_counts_in, F_counts_in.binds (ps := ["row", "width"]) fun _ _ _ _ _ _ us hl => match us, hl with | [_, _], _ => rfl⟩
  have F_most_windows := fun_mk (st := s_most_windows) l7 c7 k7
  have D_most_windows : DfN K mg "most_windows" ["width"] s_most_windows := ⟨_, _, PySem.W.mg_of X G a7, F_most_windows, F_most_windows.binds (ps := ["width"]) fun _ _ _ _ _ _ us hl => match us, hl with | [_], _ => rfl⟩
  have F_is_counts := fun_mk (st := s_is_counts) l8 c8 k8
  have D_is_counts : DfN K mg "is_counts" ["width", "value"] s_is_counts := ⟨_, _, PySem.W.mg_of X G a8, F_is_counts, F_is_counts.binds (ps := ["width", "value"]) fun _ _ _ _ _ _ us hl => match us, hl with | [_, _], _ => rfl⟩
  have F_check_table := fun_mk (st := s_check_table) l9 c9 k9
  have D_check_table : DfN K mg "check_table" ["value"] s_check_table := ⟨_, _, PySem.W.mg_of X G a9, F_check_table, F_check_table.binds (ps := ["value"]) fun _ _ _ _ _ _ us hl => match us, hl with | [_], _ => rfl⟩
  have F_law_reel := fun_mk (st := s_law_reel) l10 c10 k10
  have D_law_reel : DfN K mg "_law_reel" ["_law_script"] s_law_reel := ⟨_, _, PySem.W.mg_of X G a10, F_law_reel, F_law_reel.binds (ps := ["_law_script"]) fun _ _ _ _ _ _ us hl => match us, hl with | [_], _ => rfl⟩
  have F_law_draw := fun_mk (st := s_law_draw) l11 c11 k11
  have D_law_draw : DfN K mg "_law_draw" ["_law_reel_here", "_law_many"] s_law_draw := ⟨_, _, PySem.W.mg_of X G a11, F_law_draw, F_law_draw.binds (ps := ["_law_reel_here", "_law_many"]) fun _ _ _ _ _ _ us hl => match us, hl with | [_, _], _ => rfl⟩
  have F_law_word := fun_mk (st := s_law_word) l12 c12 k12
  have D_law_word : DfN K mg "_law_word" ["_law_reel_here", "_law_low", "_law_high"] s_law_word := ⟨_, _, PySem.W.mg_of X G a12, F_law_word, F_law_word.binds (ps := ["_law_reel_here", "_law_low", "_law_high"]) fun _ _ _ _ _ _ us hl => match us, hl with | [_, _, _], _ => rfl⟩
  have F_law_no_rows := fun_mk (st := s_law_no_rows) l13 c13 k13
  have D_law_no_rows : DfN K mg "_law_no_rows" ["_law_reel_here", "_law_text"] s_law_no_rows := ⟨_, _, PySem.W.mg_of X G a13, F_law_no_rows, F_law_no_rows.binds (ps := ["_law_reel_here", "_law_text"]) fun _ _ _ _ _ _ us hl => match us, hl with | [_, _], _ => rfl⟩
  have F_law_no_widths := fun_mk (st := s_law_no_widths) l14 c14 k14
  have D_law_no_widths : DfN K mg "_law_no_widths" ["_law_text"] s_law_no_widths := ⟨_, _, PySem.W.mg_of X G a14, F_law_no_widths, F_law_no_widths.binds (ps := ["_law_text"]) fun _ _ _ _ _ _ us hl => match us, hl with | [_], _ => rfl⟩
  have F_law_kind := fun_mk (st := s_law_kind) l15 c15 k15
  have D_law_kind : DfN K mg "_law_kind" ["_law_e"] s_law_kind := ⟨_, _, PySem.W.mg_of X G a15, F_law_kind, F_law_kind.binds (ps := ["_law_e"]) fun _ _ _ _ _ _ us hl => match us, hl with | [_], _ => rfl⟩
  have F_law_dict := fun_mk (st := s_law_dict) l16 c16 k16
  have D_law_dict : DfN K mg "_law_dict" ["_law_reel_here", "_law_wide", "_law_most"] s_law_dict := ⟨_, _, PySem.W.mg_of X G a16, F_law_dict, F_law_dict.binds (ps := ["_law_reel_here", "_law_wide", "_law_most"]) fun _ _ _ _ _ _ us hl => match us, hl with | [_, _, _], _ => rfl⟩
  have F_law_told := fun_mk (st := s_law_told) l17 c17 k17
  have D_law_told : DfN K mg "_law_told" ["_law_door", "_law_one", "_law_other"] s_law_told := ⟨_, _, PySem.W.mg_of X G a17, F_law_told, F_law_told.binds (ps := ["_law_door", "_law_one", "_law_other"]) fun _ _ _ _ _ _ us hl => match us, hl with | [_, _, _], _ => rfl⟩
  have F_law_no_counts := fun_mk (st := s_law_no_counts) l18 c18 k18
  have D_law_no_counts : DfN K mg "_law_no_counts" ["_law_reel_here", "_law_wide", "_law_counts"] s_law_no_counts := ⟨_, _, PySem.W.mg_of X G a18, F_law_no_counts, F_law_no_counts.binds (ps := ["_law_reel_here", "_law_wide", "_law_counts"]) fun _ _ _ _ _ _ us hl => match us, hl with | [_, _, _], _ => rfl⟩
  have F_law_no_windows := fun_mk (st := s_law_no_windows) l19 c19 k19
  have D_law_no_windows : DfN K mg "_law_no_windows" ["_law_wide"] s_law_no_windows := ⟨_, _, PySem.W.mg_of X G a19, F_law_no_windows, F_law_no_windows.binds (ps := ["_law_wide"]) fun _ _ _ _ _ _ us hl => match us, hl with | [_], _ => rfl⟩
  have F_law_right := fun_mk (st := s_law_right) l20 c20 k20
  have D_law_right : DfN K mg "_law_right" ["_law_reel_here", "_law_wide"] s_law_right := ⟨_, _, PySem.W.mg_of X G a20, F_law_right, F_law_right.binds (ps := ["_law_reel_here", "_law_wide"]) fun _ _ _ _ _ _ us hl => match us, hl with | [_, _], _ => rfl⟩
  have F_law := fun_mk (st := s_law) l21 c21 k21
  have D_law : DfN K mg "law" ["_law_script"] s_law := ⟨_, _, PySem.W.mg_of X G a21, F_law, F_law.binds (ps := ["_law_script"]) fun _ _ _ _ _ _ us hl => match us, hl with | [_], _ => rfl⟩
  have b_isinstance : mg "isinstance" = none := PySem.W.mg_none_of X G z0
  have b_len : mg "len" = none := PySem.W.mg_none_of X G z1
  have b_all : mg "all" = none := PySem.W.mg_none_of X G z2
  have b_str : mg "str" = none := PySem.W.mg_none_of X G z3
  have b_int : mg "int" = none := PySem.W.mg_none_of X G z4
  have b_bool : mg "bool" = none := PySem.W.mg_none_of X G z5
  have b_tuple : mg "tuple" = none := PySem.W.mg_none_of X G z6
  have b_range : mg "range" = none := PySem.W.mg_none_of X G z7
  have b_min : mg "min" = none := PySem.W.mg_none_of X G z8
  have b_repr : mg "repr" = none := PySem.W.mg_none_of X G z9
  have b_list : mg "list" = none := PySem.W.mg_none_of X G z10
  have b_dict : mg "dict" = none := PySem.W.mg_none_of X G z11
  have b_sum : mg "sum" = none := PySem.W.mg_none_of X G z12
  have b_sorted : mg "sorted" = none := PySem.W.mg_none_of X G z13
  have b_ValueError : mg "ValueError" = none := PySem.W.mg_none_of X G z14
  have g_LETTERS : GlT K mg "LETTERS" (.str (sOf "abcdefghijklmnopqrstuvwxyz")) := gl_str (PySem.W.mg_of X G qc0)
  have g_MOST_LETTERS : GlT K mg "MOST_LETTERS" (.int 200) := gl_int (PySem.W.mg_of X G qc1)
  have g_WIDEST : GlT K mg "WIDEST" (.int 12) := gl_int (PySem.W.mg_of X G qc2)
  have m_Table : mg "Table" = some (.ref C0) := PySem.W.mg_of X G u0
  have gc_Table : GlT K mg "Table" (.ref C0) := gl_own (PySem.W.mg_of X G u0)
  have cl_Table : Cls K C0 := ⟨up0, uh0, uo0, us0⟩
  have ty_Table : TyC K C0 := ⟨ua0, oc1, oc2, ut0⟩
  have ow_Table := uw0
  have cr_Table : ClX.CRead K C0 (.type "type") := ⟨ur0, ug0⟩
  have na_Table_letters : NoAttr K C0 "letters" := uf0_0
  have na_Table_found : NoAttr K C0 "found" := uf0_1
  have F_Table_init := fun_mk (st := s_Table_init) ml0 mg0 mk0
  have B_Table_init : Binds K _ ["self", "width", "counts"] [] := F_Table_init.binds (ps := ["self", "width", "counts"]) fun _ _ _ _ _ _ us hl => match us, hl with | [_, _, _], _ => rfl
  have M_Table_init : Mk K C0 mf0 := ⟨mb0, ma0, mc0, uk0⟩
  have F_Table_of := fun_mk (st := s_Table_of) ml1 mg1 mk1
  have B_Table_of : Binds K _ ["cls", "row", "width"] [] := F_Table_of.binds (ps := ["cls", "row", "width"]) fun _ _ _ _ _ _ us hl => match us, hl with | [_, _, _], _ => rfl
  have M_Table_of : ClX.CMet K C0 (.type "type") "of" mp1 mf1 := ⟨ma1, ⟨_, mb1⟩, mc1⟩
  have F_Table_width := fun_mk (st := s_Table_width) ml2 mg2 mk2
  have B_Table_width : Binds K _ ["self"] [] := F_Table_width.binds (ps := ["self"]) fun _ _ _ _ _ _ us hl => match us, hl with | [_], _ => rfl
  have M_Table_width : PropOf K C0 "width" mp2 mf2 := ⟨ma2, mb2, mc2, _, md2⟩
  have F_Table_counts := fun_mk (st := s_Table_counts) ml3 mg3 mk3
  have B_Table_counts : Binds K _ ["self"] [] := F_Table_counts.binds (ps := ["self"]) fun _ _ _ _ _ _ us hl => match us, hl with | [_], _ => rfl
  have M_Table_counts : PropOf K C0 "counts" mp3 mf3 := ⟨ma3, mb3, mc3, _, md3⟩
  have F_Table_total := fun_mk (st := s_Table_total) ml4 mg4 mk4
  have B_Table_total : Binds K _ ["self"] [] := F_Table_total.binds (ps := ["self"]) fun _ _ _ _ _ _ us hl => match us, hl with | [_], _ => rfl
  have M_Table_total : PropOf K C0 "total" mp4 mf4 := ⟨ma4, mb4, mc4, _, md4⟩
  have F_Table_times_of := fun_mk (st := s_Table_times_of) ml5 mg5 mk5
  have B_Table_times_of : Binds K _ ["self", "window"] [] := F_Table_times_of.binds (ps := ["self", "window"]) fun _ _ _ _ _ _ us hl => match us, hl with | [_, _], _ => rfl
  have M_Table_times_of : Meth K C0 "times_of" mf5 := ⟨ma5, mb5, mk5⟩
  have F_Table_check_other := fun_mk (st := s_Table_check_other) ml6 mg6 mk6
  have B_Table_check_other : Binds K _ ["self", "value"] [] := F_Table_check_other.binds (ps := ["self", "value"]) fun _ _ _ _ _ _ us hl => match us, hl with | [_, _], _ => rfl
  have M_Table_check_other : Meth K C0 "check_other" mf6 := ⟨ma6, mb6, mk6⟩
  have F_Table_check_size := fun_mk (st := s_Table_check_size) ml7 mg7 mk7
  have B_Table_check_size : Binds K _ ["self", "number"] [] := F_Table_check_size.binds (ps := ["self", "number"]) fun _ _ _ _ _ _ us hl => match us, hl with | [_, _], _ => rfl
  have M_Table_check_size : Meth K C0 "check_size" mf7 := ⟨ma7, mb7, mk7⟩
  have F_Table_add := fun_mk (st := s_Table_add) ml8 mg8 mk8
  have B_Table_add : Binds K _ ["self", "other"] [] := F_Table_add.binds (ps := ["self", "other"]) fun _ _ _ _ _ _ us hl => match us, hl with | [_, _], _ => rfl
  have M_Table_add : Meth K C0 "__add__" mf8 := ⟨ma8, mb8, mk8⟩
  have F_Table_sub := fun_mk (st := s_Table_sub) ml9 mg9 mk9
  have B_Table_sub : Binds K _ ["self", "other"] [] := F_Table_sub.binds (ps := ["self", "other"]) fun _ _ _ _ _ _ us hl => match us, hl with | [_, _], _ => rfl
  have M_Table_sub : Meth K C0 "__sub__" mf9 := ⟨ma9, mb9, mk9⟩
  have F_Table_mul := fun_mk (st := s_Table_mul) ml10 mg10 mk10
  have B_Table_mul : Binds K _ ["self", "other"] [] := F_Table_mul.binds (ps := ["self", "other"]) fun _ _ _ _ _ _ us hl => match us, hl with | [_, _], _ => rfl
  have M_Table_mul : Meth K C0 "__mul__" mf10 := ⟨ma10, mb10, mk10⟩
  have F_Table_invert := fun_mk (st := s_Table_invert) ml11 mg11 mk11
  have B_Table_invert : Binds K _ ["self"] [] := F_Table_invert.binds (ps := ["self"]) fun _ _ _ _ _ _ us hl => match us, hl with | [_], _ => rfl
  have M_Table_invert : Meth K C0 "__invert__" mf11 := ⟨ma11, mb11, mk11⟩
  have F_Table_contains := fun_mk (st := s_Table_contains) ml12 mg12 mk12
  have B_Table_contains : Binds K _ ["self", "value"] [] := F_Table_contains.binds (ps := ["self", "value"]) fun _ _ _ _ _ _ us hl => match us, hl with | [_, _], _ => rfl
  have M_Table_contains : Meth K C0 "__contains__" mf12 := ⟨ma12, mb12, mk12⟩
  have F_Table_len := fun_mk (st := s_Table_len) ml13 mg13 mk13
  have B_Table_len : Binds K _ ["self"] [] := F_Table_len.binds (ps := ["self"]) fun _ _ _ _ _ _ us hl => match us, hl with | [_], _ => rfl
  have M_Table_len : Meth K C0 "__len__" mf13 := ⟨ma13, mb13, mk13⟩
  have F_Table_eq := fun_mk (st := s_Table_eq) ml14 mg14 mk14
  have B_Table_eq : Binds K _ ["self", "other"] [] := F_Table_eq.binds (ps := ["self", "other"]) fun _ _ _ _ _ _ us hl => match us, hl with | [_, _], _ => rfl
  have M_Table_eq : Meth K C0 "__eq__" mf14 := ⟨ma14, mb14, mk14⟩
  have F_Table_call := fun_mk (st := s_Table_call) ml15 mg15 mk15
  have B_Table_call : Binds K _ ["self", "row"] [] := F_Table_call.binds (ps := ["self", "row"]) fun _ _ _ _ _ _ us hl => match us, hl with | [_, _], _ => rfl
  have M_Table_call : Meth K C0 "__call__" mf15 := ⟨ma15, mb15, mk15⟩
  obtain ⟨fam, xp, xi⟩ := excAllB_ok xb
  have famx := famXB_ok xb2
  have x0 : X1 K mg "InvalidRow" c_0 := ⟨PySem.W.mg_of X G e0, xp c_0 (by simp), (fam.ex c_0 (by simp)).kp⟩
  have x1 : X1 K mg "InvalidWidth" c_1 := ⟨PySem.W.mg_of X G e1, xp c_1 (by simp), (fam.ex c_1 (by simp)).kp⟩
  have x2 : X1 K mg "InvalidCounts" c_2 := ⟨PySem.W.mg_of X G e2, xp c_2 (by simp), (fam.ex c_2 (by simp)).kp⟩
  have x3 : X1 K mg "InvalidTable" c_3 := ⟨PySem.W.mg_of X G e3, xp c_3 (by simp), (fam.ex c_3 (by simp)).kp⟩
  have x4 : X1 K mg "InvalidWindow" c_4 := ⟨PySem.W.mg_of X G e4, xp c_4 (by simp), (fam.ex c_4 (by simp)).kp⟩
  have x5 : X1 K mg "InvalidMove" c_5 := ⟨PySem.W.mg_of X G e5, xp c_5 (by simp), (fam.ex c_5 (by simp)).kp⟩
  have x6 : X1 K mg "InvalidNumber" c_6 := ⟨PySem.W.mg_of X G e6, xp c_6 (by simp), (fam.ex c_6 (by simp)).kp⟩
  have x7 : X1 K mg "InvalidCommand" c_7 := ⟨PySem.W.mg_of X G e7, xp c_7 (by simp), (fam.ex c_7 (by simp)).kp⟩
  have x8 : X1 K mg "Different" c_8 := ⟨PySem.W.mg_of X G e8, xp c_8 (by simp), (fam.ex c_8 (by simp)).kp⟩
  have x9 : X1 K mg "NothingToUndo" c_9 := ⟨PySem.W.mg_of X G e9, xp c_9 (by simp), (fam.ex c_9 (by simp)).kp⟩
  have xw : X1 K mg "WindowError" cw := ⟨PySem.W.mg_of X G e14, xp cw (by simp), (fam.ex cw (by simp)).kp⟩
  have bw : BaseI K mg "WindowError" cw (.type "type") := ⟨xw.m, wr, wg, wi⟩
  have T10 := oexB_ok (fam.ex c_10 (by simp)) (xi c_10 (by simp)) ia10
  have I10 := fun_mk (st := s_i10) il10 ig10 ik10
  have x10 : ∀ base : Heap, X2 l.prog w K mg base "Missing" c_10 "window" 1 := fun base => ⟨PySem.W.mg_of X G e10, ⟨T10, _, _, _, ib10, ic10, I10.binds (ps := ["self", "window"]) fun _ _ _ _ _ _ us hl => (match us, hl with | [_, _], _ => rfl), init_ok (k := 0) I10 sc_i10 T10 ie10 bw (by rfl) (by rfl) (by rfl) (by rfl) (fun env => ⟨_, rfl⟩)⟩⟩
  have T11 := oexB_ok (fam.ex c_11 (by simp)) (xi c_11 (by simp)) ia11
  have I11 := fun_mk (st := s_i11) il11 ig11 ik11
  have x11 : ∀ base : Heap, X2 l.prog w K mg base "NoRow" c_11 "fault" 1 := fun base => ⟨PySem.W.mg_of X G e11, ⟨T11, _, _, _, ib11, ic11, I11.binds (ps := ["self", "fault"]) fun _ _ _ _ _ _ us hl => (match us, hl with | [_, _], _ => rfl), init_ok (k := 0) I11 sc_i11 T11 ie11 bw (by rfl) (by rfl) (by rfl) (by rfl) (fun env => ⟨_, rfl⟩)⟩⟩
  have T12 := oexB_ok (fam.ex c_12 (by simp)) (xi c_12 (by simp)) ia12
  have I12 := fun_mk (st := s_i12) il12 ig12 ik12
  have x12 : ∀ base : Heap, X2 l.prog w K mg base "TooLarge" c_12 "limit" 1 := fun base => ⟨PySem.W.mg_of X G e12, ⟨T12, _, _, _, ib12, ic12, I12.binds (ps := ["self", "limit"]) fun _ _ _ _ _ _ us hl => (match us, hl with | [_, _], _ => rfl), init_ok (k := 0) I12 sc_i12 T12 ie12 bw (by rfl) (by rfl) (by rfl) (by rfl) (fun env => ⟨_, rfl⟩)⟩⟩
  have T13 := oexB_ok (fam.ex c_13 (by simp)) (xi c_13 (by simp)) ia13
  have I13 := fun_mk (st := s_i13) il13 ig13 ik13
  have x13 : ∀ base : Heap, X2 l.prog w K mg base "InvalidText" c_13 "index" 1 := fun base => ⟨PySem.W.mg_of X G e13, ⟨T13, _, _, _, ib13, ic13, I13.binds (ps := ["self", "index"]) fun _ _ _ _ _ _ us hl => (match us, hl with | [_, _], _ => rfl), init_ok (k := 0) I13 sc_i13 T13 ie13 bw (by rfl) (by rfl) (by rfl) (by rfl) (fun env => ⟨_, rfl⟩)⟩⟩
  have gc0 : GlT K mg "InvalidRow" (.ref c_0) := gl_cls (PySem.W.mg_of X G e0)
  have gc1 : GlT K mg "InvalidWidth" (.ref c_1) := gl_cls (PySem.W.mg_of X G e1)
  have gc2 : GlT K mg "InvalidCounts" (.ref c_2) := gl_cls (PySem.W.mg_of X G e2)
  have gc3 : GlT K mg "InvalidTable" (.ref c_3) := gl_cls (PySem.W.mg_of X G e3)
  have gc4 : GlT K mg "InvalidWindow" (.ref c_4) := gl_cls (PySem.W.mg_of X G e4)
  have gc5 : GlT K mg "InvalidMove" (.ref c_5) := gl_cls (PySem.W.mg_of X G e5)
  have gc6 : GlT K mg "InvalidNumber" (.ref c_6) := gl_cls (PySem.W.mg_of X G e6)
  have gc7 : GlT K mg "InvalidCommand" (.ref c_7) := gl_cls (PySem.W.mg_of X G e7)
  have gc8 : GlT K mg "Different" (.ref c_8) := gl_cls (PySem.W.mg_of X G e8)
  have gc9 : GlT K mg "NothingToUndo" (.ref c_9) := gl_cls (PySem.W.mg_of X G e9)
  have gc10 : GlT K mg "Missing" (.ref c_10) := gl_cls (PySem.W.mg_of X G e10)
  have gc11 : GlT K mg "NoRow" (.ref c_11) := gl_cls (PySem.W.mg_of X G e11)
  have gc12 : GlT K mg "TooLarge" (.ref c_12) := gl_cls (PySem.W.mg_of X G e12)
  have gc13 : GlT K mg "InvalidText" (.ref c_13) := gl_cls (PySem.W.mg_of X G e13)
  have gcw : GlT K mg "WindowError" (.ref cw) := gl_cls (PySem.W.mg_of X G e14)
  refine ⟨PySem.W.fnOf "law" "law" (defArgs s_law) (defBody s_law) (defScope s_law) .none kV21 dc21 pm21 an21 cd21 ct21, fun s v => .of_eq rfl, fun base _ _ sm => ?_⟩
  have r1 := ok_is_letters (P := l.prog) (w := w) (base := base) D_is_letters g_LETTERS b_isinstance b_len b_all b_str
  have r2 := ok_is_row r1 D_is_row g_MOST_LETTERS
  have r3 := ok_reel (P := l.prog) (w := w) (base := base) D_law_reel
  have r4 := ok_draw (P := l.prog) (w := w) (base := base) sm D_law_draw b_int b_len
  have r5 := ok_word r4 D_law_word b_range b_len
  have t1 := ok_is_integer (P := l.prog) (w := w) (base := base) D_is_integer b_isinstance b_int b_bool
  have tB := ok_is_integerB (P := l.prog) (w := w) (base := base) D_is_integer b_isinstance b_int b_bool
  have tP := ok_is_integerP (P := l.prog) (w := w) (base := base) D_is_integer b_isinstance b_int b_bool
  have t2 := ok_most (P := l.prog) (w := w) (base := base) D_most_windows g_MOST_LETTERS
  have t3 := ok_is_counts t1 r1 t2 D_is_counts b_isinstance b_dict b_all b_sum
  have t3N := ok_is_countsN tP r1 t2 D_is_counts b_isinstance b_dict b_all b_sum
  have t4 : DtI l.prog w K mg base _ ["self", "width", "counts"] 3 _ := ⟨_, _, M_Table_init, B_Table_init, ok_tab_init t1 t3 cl_Table na_Table_letters na_Table_found F_Table_init g_WIDEST b_sorted⟩
  have t4E : DtI l.prog w K mg base _ ["self", "width", "counts"] 3 _ := ⟨_, _, M_Table_init, B_Table_init, ok_tab_initE (C := C0) tB t3N g_WIDEST x1 (fam.ex c_1 (by simp)) x2 (fam.ex c_2 (by simp)) F_Table_init⟩
  have c1 := ok_check_row r2 D_check_row
  have c2 := ok_check_width t1 g_WIDEST b_min b_len D_check_width
  have e1 := ok_check_rowE r2 x0 (fam.ex c_0 (by simp)) D_check_row
  have e2 := ok_check_widthE tB g_WIDEST b_min b_len x1 (fam.ex c_1 (by simp)) D_check_width
  have c3 := ok_windows_in (P := l.prog) (w := w) (base := base) D_windows_in b_range b_len
  have c4 := ok_counts_in c3 D_counts_in b_sorted
  have t5 : DtC l.prog w K mg base _ "of" ["cls", "row", "width"] 5 _ := ⟨_, _, _, _, cr_Table, M_Table_of, B_Table_of, ok_tab_of c1 c2 c4 t4 F_Table_of⟩
  have t5E : DtC l.prog w K mg base _ "of" ["cls", "row", "width"] 5 _ := ⟨_, _, _, _, cr_Table, M_Table_of, B_Table_of, ok_tab_ofE (C := C0) c1 e1 e2 F_Table_of⟩
  have t6 : DtM l.prog w K mg base _ "times_of" ["self", "window"] 2 _ := ⟨_, _, M_Table_times_of, B_Table_times_of, ok_tab_times r1 cl_Table na_Table_letters na_Table_found F_Table_times_of⟩
  have t6E : DtM l.prog w K mg base _ "times_of" ["self", "window"] 2 _ := ⟨_, _, M_Table_times_of, B_Table_times_of, ok_tab_timesE r1 cl_Table na_Table_letters x4 (fam.ex c_4 (by simp)) F_Table_times_of⟩
  have kd := fun a oe => ok_kindH (P := l.prog) (w := w) (base := base) (a := a) (oe := oe) fam gc0 gc1 gc2 gc3 gc4 gc5 gc6 gc7 gc8 gc9 gc10 gc11 gc12 gc13 D_law_kind b_isinstance b_len b_ValueError
  have tl := ok_told6 fam famx cl_Table m_Table xw.m kd t4 t4E t5 t5E t6 t6E D_law_told
  have q1 := ok_dict r4 r5 b_min D_law_dict
  have q2 := ok_no_rows r4 D_law_no_rows b_len b_list b_tuple
  have q3 := ok_no_widths (P := l.prog) (w := w) (base := base) b_len b_min D_law_no_widths
  have q4 := ok_no_counts sm r4 D_law_no_counts b_len b_list b_dict
  have q5 := ok_no_windows (P := l.prog) (w := w) (base := base) sm b_list D_law_no_windows
  have q6 := ok_right6 sm m_Table q1 t4 q4 q5 tl b_repr b_dict b_sum D_law_right
  exact ok_law6 sm r3 r4 r5 q2 q3 q6 tl F_law b_len b_min b_range
end Y
open PySem PySem.W PyProof.Rows
set_option maxRecDepth 100000 in
set_option maxHeartbeats 0 in
theorem PySem.Challenge.cw_windowcounts_k06_errors_of_tables_holds : PySem.Challenge.rw_windowcounts_k06_errors_of_tables.Holds := by
  w_on; o_law; k_head; (case hw => w_witness2)
  k_fill
  refine Y.walkT (l := PySem.Challenge.rw_windowcounts_k06_errors_of_tables) (k := 8) (x := "_law_script") ?hi rfl rfl ⟨rfl, by decide, by decide⟩ (fun w h Y => PySem.W.kIn_of Y) ?F
  case hi => rfl
  case F =>
    intro w mg fa h KX G hmg
    refine' Y.all_mk KX G hmg ?a0 ?l0 ?c0 ?k0 ?a1 ?l1 ?c1 ?k1 ?a2 ?l2 ?c2 ?k2 ?a3 ?l3 ?c3 ?k3 ?a4 ?l4 ?c4 ?k4 ?a5 ?l5 ?c5 ?k5 ?a6 ?l6 ?c6 ?k6 ?a7 ?l7 ?c7 ?k7 ?a8 ?l8 ?c8 ?k8 ?a9 ?l9 ?c9 ?k9 ?a10 ?l10 ?c10 ?k10 ?a11 ?l11 ?c11 ?k11 ?a12 ?l12 ?c12 ?k12 ?a13 ?l13 ?c13 ?k13 ?a14 ?l14 ?c14 ?k14 ?a15 ?l15 ?c15 ?k15 ?a16 ?l16 ?c16 ?k16 ?a17 ?l17 ?c17 ?k17 ?a18 ?l18 ?c18 ?k18 ?a19 ?l19 ?c19 ?k19 ?a20 ?l20 ?c20 ?k20 ?a21 ?l21 ?c21 ?k21 ?qc0 ?qc1 ?qc2 ?z0 ?z1 ?z2 ?z3 ?z4 ?z5 ?z6 ?z7 ?z8 ?z9 ?z10 ?z11 ?z12 ?z13 ?z14 ?u0 ?up0 ?uh0 ?uo0 ?us0 ?ua0 ?ut0 ?uk0 ?uw0 ?ur0 ?ug0 ?uf0_0 ?uf0_1 ?oc1 ?oc2 ?ma0 ?mb0 ?mc0 ?ml0 ?mg0 ?mk0 ?ma1 ?mb1 ?mc1 ?ml1 ?mg1 ?mk1 ?ma2 ?mb2 ?mc2 ?md2 ?ml2 ?mg2 ?mk2 ?ma3 ?mb3 ?mc3 ?md3 ?ml3 ?mg3 ?mk3 ?ma4 ?mb4 ?mc4 ?md4 ?ml4 ?mg4 ?mk4 ?ma5 ?mb5 ?ml5 ?mg5 ?mk5 ?ma6 ?mb6 ?ml6 ?mg6 ?mk6 ?ma7 ?mb7 ?ml7 ?mg7 ?mk7 ?ma8 ?mb8 ?ml8 ?mg8 ?mk8 ?ma9 ?mb9 ?ml9 ?mg9 ?mk9 ?ma10 ?mb10 ?ml10 ?mg10 ?mk10 ?ma11 ?mb11 ?ml11 ?mg11 ?mk11 ?ma12 ?mb12 ?ml12 ?mg12 ?mk12 ?ma13 ?mb13 ?ml13 ?mg13 ?mk13 ?ma14 ?mb14 ?ml14 ?mg14 ?mk14 ?ma15 ?mb15 ?ml15 ?mg15 ?mk15 ?e0 ?e1 ?e2 ?e3 ?e4 ?e5 ?e6 ?e7 ?e8 ?e9 ?e10 ?e11 ?e12 ?e13 ?e14 ?xb ?xb2 ?wr ?wg ?wi ?ia10 ?ib10 ?ic10 ?ie10 ?il10 ?ig10 ?ik10 ?ia11 ?ib11 ?ic11 ?ie11 ?il11 ?ig11 ?ik11 ?ia12 ?ib12 ?ic12 ?ie12 ?il12 ?ig12 ?ik12 ?ia13 ?ib13 ?ic13 ?ie13 ?il13 ?ig13 ?ik13
    (case a0 => k_is)
    (case l0 => k_is)
    (case c0 => k_is)
    (case k0 => k_is)
    (case a1 => k_is)
    (case l1 => k_is)
    (case c1 => k_is)
    (case k1 => k_is)
    (case a2 => k_is)
    (case l2 => k_is)
    (case c2 => k_is)
    (case k2 => k_is)
    (case a3 => k_is)
    (case l3 => k_is)
    (case c3 => k_is)
    (case k3 => k_is)
    (case a4 => k_is)
    (case l4 => k_is)
    (case c4 => k_is)
    (case k4 => k_is)
    (case a5 => k_is)
    (case l5 => k_is)
    (case c5 => k_is)
    (case k5 => k_is)
    (case a6 => k_is)
    (case l6 => k_is)
    (case c6 => k_is)
    (case k6 => k_is)
    (case a7 => k_is)
    (case l7 => k_is)
    (case c7 => k_is)
    (case k7 => k_is)
    (case a8 => k_is)
    (case l8 => k_is)
    (case c8 => k_is)
    (case k8 => k_is)
    (case a9 => k_is)
    (case l9 => k_is)
    (case c9 => k_is)
    (case k9 => k_is)
    (case a10 => k_is)
    (case l10 => k_is)
    (case c10 => k_is)
    (case k10 => k_is)
    (case a11 => k_is)
    (case l11 => k_is)
    (case c11 => k_is)
    (case k11 => k_is)
    (case a12 => k_is)
    (case l12 => k_is)
    (case c12 => k_is)
    (case k12 => k_is)
    (case a13 => k_is)
    (case l13 => k_is)
    (case c13 => k_is)
    (case k13 => k_is)
    (case a14 => k_is)
    (case l14 => k_is)
    (case c14 => k_is)
    (case k14 => k_is)
    (case a15 => k_is)
    (case l15 => k_is)
    (case c15 => k_is)
    (case k15 => k_is)
    (case a16 => k_is)
    (case l16 => k_is)
    (case c16 => k_is)
    (case k16 => k_is)
    (case a17 => k_is)
    (case l17 => k_is)
    (case c17 => k_is)
    (case k17 => k_is)
    (case a18 => k_is)
    (case l18 => k_is)
    (case c18 => k_is)
    (case k18 => k_is)
    (case a19 => k_is)
    (case l19 => k_is)
    (case c19 => k_is)
    (case k19 => k_is)
    (case a20 => k_is)
    (case l20 => k_is)
    (case c20 => k_is)
    (case k20 => k_is)
    (case a21 => k_is)
    (case l21 => k_is)
    (case c21 => k_is)
    (case k21 => k_is)
    (case qc0 => k_is)
    (case qc1 => k_is)
    (case qc2 => k_is)
    (case z0 => k_is)
    (case z1 => k_is)
    (case z2 => k_is)
    (case z3 => k_is)
    (case z4 => k_is)
    (case z5 => k_is)
    (case z6 => k_is)
    (case z7 => k_is)
    (case z8 => k_is)
    (case z9 => k_is)
    (case z10 => k_is)
    (case z11 => k_is)
    (case z12 => k_is)
    (case z13 => k_is)
    (case z14 => k_is)
    (case u0 => k_is)
    (case up0 => k_is)
    (case uh0 => k_is)
    (case uo0 => k_is)
    (case us0 => k_is)
    (case ua0 => k_is)
    (case ut0 => k_is)
    (case uk0 => k_is)
    (case uw0 => kernel_rfl)
    (case ur0 => k_is)
    (case ug0 => k_is)
    (case uf0_0 => k_is)
    (case uf0_1 => k_is)
    (case oc1 => k_is)
    (case oc2 => k_is)
    (case ma0 => k_is)
    (case mb0 => k_is)
    (case mc0 => k_is)
    (case ml0 => k_is)
    (case mg0 => k_is)
    (case mk0 => k_is)
    (case ma1 => k_is)
    (case mb1 => k_is)
    (case mc1 => k_is)
    (case ml1 => k_is)
    (case mg1 => k_is)
    (case mk1 => k_is)
    (case ma2 => k_is)
    (case mb2 => k_is)
    (case mc2 => k_is)
    (case md2 => k_is)
    (case ml2 => k_is)
    (case mg2 => k_is)
    (case mk2 => k_is)
    (case ma3 => k_is)
    (case mb3 => k_is)
    (case mc3 => k_is)
    (case md3 => k_is)
    (case ml3 => k_is)
    (case mg3 => k_is)
    (case mk3 => k_is)
    (case ma4 => k_is)
    (case mb4 => k_is)
    (case mc4 => k_is)
    (case md4 => k_is)
    (case ml4 => k_is)
    (case mg4 => k_is)
    (case mk4 => k_is)
    (case ma5 => k_is)
    (case mb5 => k_is)
    (case ml5 => k_is)
    (case mg5 => k_is)
    (case mk5 => k_is)
    (case ma6 => k_is)
    (case mb6 => k_is)
    (case ml6 => k_is)
    (case mg6 => k_is)
    (case mk6 => k_is)
    (case ma7 => k_is)
    (case mb7 => k_is)
    (case ml7 => k_is)
    (case mg7 => k_is)
    (case mk7 => k_is)
    (case ma8 => k_is)
    (case mb8 => k_is)
    (case ml8 => k_is)
    (case mg8 => k_is)
    (case mk8 => k_is)
    (case ma9 => k_is)
    (case mb9 => k_is)
    (case ml9 => k_is)
    (case mg9 => k_is)
    (case mk9 => k_is)
    (case ma10 => k_is)
    (case mb10 => k_is)
    (case ml10 => k_is)
    (case mg10 => k_is)
    (case mk10 => k_is)
    (case ma11 => k_is)
    (case mb11 => k_is)
    (case ml11 => k_is)
    (case mg11 => k_is)
    (case mk11 => k_is)
    (case ma12 => k_is)
    (case mb12 => k_is)
    (case ml12 => k_is)
    (case mg12 => k_is)
    (case mk12 => k_is)
    (case ma13 => k_is)
    (case mb13 => k_is)
    (case ml13 => k_is)
    (case mg13 => k_is)
    (case mk13 => k_is)
    (case ma14 => k_is)
    (case mb14 => k_is)
    (case ml14 => k_is)
    (case mg14 => k_is)
    (case mk14 => k_is)
    (case ma15 => k_is)
    (case mb15 => k_is)
    (case ml15 => k_is)
    (case mg15 => k_is)
    (case mk15 => k_is)
    (case e0 => k_is)
    (case e1 => k_is)
    (case e2 => k_is)
    (case e3 => k_is)
    (case e4 => k_is)
    (case e5 => k_is)
    (case e6 => k_is)
    (case e7 => k_is)
    (case e8 => k_is)
    (case e9 => k_is)
    (case e10 => k_is)
    (case e11 => k_is)
    (case e12 => k_is)
    (case e13 => k_is)
    (case e14 => k_is)
    (case wr => k_is)
    (case wg => k_is)
    (case wi => k_is)
    (case ia10 => k_is)
    (case ib10 => k_is)
    (case ic10 => k_is)
    (case ie10 => k_is)
    (case il10 => k_is)
    (case ig10 => k_is)
    (case ik10 => k_is)
    (case ia11 => k_is)
    (case ib11 => k_is)
    (case ic11 => k_is)
    (case ie11 => k_is)
    (case il11 => k_is)
    (case ig11 => k_is)
    (case ik11 => k_is)
    (case ia12 => k_is)
    (case ib12 => k_is)
    (case ic12 => k_is)
    (case ie12 => k_is)
    (case il12 => k_is)
    (case ig12 => k_is)
    (case ik12 => k_is)
    (case ia13 => k_is)
    (case ib13 => k_is)
    (case ic13 => k_is)
    (case ie13 => k_is)
    (case il13 => k_is)
    (case ig13 => k_is)
    (case ik13 => k_is)
    (case xb => kernel_rfl)
    (case xb2 => kernel_rfl)

