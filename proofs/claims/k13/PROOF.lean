import PyProof.Rows.All
import Wide.All
import OpenK.AllK
import Wide.FinOn
import HandS.ForMost
import HandS.ForExc
import HandS.Wide
import HandS.Walk
import HandS.DictComp
import HandS.Codes
import HandS.IsInst
import HandS.StrMore
import HandS.Style
import HandS.ExcValue
import HandS.ExcInit
import HandS.ExcField
import HandS.ExcIs
import HandS.EndBits
import HandS.NoneIn
import HandS.Hot
import HandS.HotCalls
import HandS.Comp
import HandS.ExcCtx
import HandS.WordsExc
import HandS.Iter
import KE.KDictSum
import PyProof.Rows.SortShellAny
import HandS.Small
import HandS.Property
import KE.KOpsOwn
import HandS.OwnEq
import HandS.ClsMeth
import PyProof.InstNe
import PyProof.Rows.SumGenD
import HandS.Sort
import HandS.TryMany
import HandS.ExcInitHot
import KE.LtData
import KE.DatumOrd
import KE.KDictList
import HandS.DictTup
import PyProof.EqKinds
import HandS.Set
import HandS.SetTxt0
import HandS.SetFor
import HandS.Star
import KE.KUnpackStar
import HandS.Finally
import PyProof.SumAny
import HandS.TupAny
import PyProof.NeKinds
import HandS.GenList
import HandS.SortInts
import HandS.FStr
import HandS.RaiseMore
import HandS.Conv
import PyProof.Rows.StrIntSpec
import PyProof.MinMaxWalk
import PyProof.FString5
import HandS.Text
import HandS.WideMore
import HandS.Replace
import PySem.Challenge.RW_windowcounts_k13_moves_judged
set_option Elab.async false
set_option linter.all false
set_option maxRecDepth 100000
set_option maxHeartbeats 2000000
/-! Z0: a layer of two heaps (what a def knows for good, what stands), expressions evaluated to what a predicate says. -/
namespace Z
open PySem L2
open PyProof.Rows (subscriptTail)

/-! ### canonical readings -/
section
variable {X : Cx}
def cE (X : Cx) (e : Expr) : TE := fun st K Q => ∀ pins s, Inv X pins st K s → wpAny (model X.prog X.w) X.A (eval e X.env) (EP X pins st Q) X.xe s
def cT (X : Cx) (e : Expr) : TT := fun st K Q => ∀ pins s, Inv X pins st K s → wpAny (model X.prog X.w) X.A (isTrue e X.env (eval e X.env)) (TP X pins st Q) X.xe s
def cW (X : Cx) (e : Expr) : TT := fun st K Q => ∀ whole pins s, Inv X pins st K s → wpAny (model X.prog X.w) X.A (isTrue e X.env whole) (TP X pins st Q) X.xe s
def cA (X : Cx) (es : List Expr) : TA := fun st K Q => ∀ pos pins s, Inv X pins st K s → wpAny (model X.prog X.w) X.A (spliced (backTo pos (starEach es X.env))) (AP X pins st Q) X.xe s
def cS (X : Cx) (e : Stmt) : TS := fun D st K => ∀ pins s, Inv X pins st K s → wpAny (model X.prog X.w) X.A (exec e X.env) (SP X pins D) X.xe s
def cB (X : Cx) (e : List Stmt) : TS := fun D st K => ∀ pins s, Inv X pins st K s → wpAny (model X.prog X.w) X.A (execs e X.env) (SP X pins D) X.xe s
def cO (X : Cx) (f : Value → Value → Sem Value) : R2 := fun x y K Q => ∀ pins s st v u, Inv X pins st K s → RelV x v → RelV y u → wpAny (model X.prog X.w) X.A (f v u) (EP X pins st Q) X.xe s
def cU (X : Cx) (f : Value → Sem Value) : V → Hp → VK → Prop := fun x K Q => ∀ pins s st v, Inv X pins st K s → RelV x v → wpAny (model X.prog X.w) X.A (f v) (EP X pins st Q) X.xe s
def cF (X : Cx) (f : Value) : List V → Hp → VK → Prop := fun xs K Q => ∀ pins s st us, Inv X pins st K s → Vals xs us → wpAny (model X.prog X.w) X.A (call f us) (EP X pins st Q) X.xe s
def cM (X : Cx) (id : String) : V → List V → Hp → VK → Prop := fun x xs K Q => ∀ pins s st v us, Inv X pins st K s → RelV x v → Vals xs us → wpAny (model X.prog X.w) X.A (call (.builtin id) (v :: us)) (EP X pins st Q) X.xe s
def cI (X : Cx) : R2 := fun x y K Q => ∀ value slice pins s st v u, Inv X pins st K s → RelV x v → RelV y u → subscripted slice false v u = operate [v, u] (getItem v u) → wpAny (model X.prog X.w) X.A (subscriptTail value slice v u) (EP X pins st Q) X.xe s
def cL (X : Cx) : V → Option Int → Option Int → Hp → VK → Prop := fun x lo hi K Q => ∀ pins s st v vl vu sl, Inv X pins st K s → RelV x v → s.heap.IsSliceOf sl vl vu .none → IsPart vl lo → IsPart vu hi →
    ∃ T id, typeLookup (.type T) "__getitem__" = pure (some (.builtin id)) ∧ s.TypeIs v T ∧ wpAny (model X.prog X.w) X.A (getItem v (.ref sl)) (EP X pins st Q) X.xe s
theorem cE_pe {e : Expr} : PE X e (cE X e) := ⟨fun pins s _ _ _ I h => h pins s I⟩
theorem cT_pt {e : Expr} : PT X e (cT X e) := ⟨fun pins s _ _ _ I h => h pins s I⟩
theorem cW_pw {e : Expr} : PW X e (cW X e) := ⟨fun w pins s _ _ _ I h => h w pins s I⟩
theorem cA_pa {e : List Expr} : PA X e (cA X e) := ⟨fun pos pins s _ _ _ I h => h pos pins s I⟩
theorem cS_ps {e : Stmt} : PS X e (cS X e) := ⟨fun pins s _ _ _ I h => h pins s I⟩
theorem cB_pss {e : List Stmt} : PSs X e (cB X e) := ⟨fun pins s _ _ _ I h => h pins s I⟩
theorem cO_or {f : Value → Value → Sem Value} : OpR X f (cO X f) := fun pins s st _ _ _ v u _ I r q h => h pins s st v u I r q
theorem cU_or {f : Value → Sem Value} : UnR X f (cU X f) := fun pins s st _ _ v _ I r h => h pins s st v I r
theorem cF_cr {f : Value} : CallR X f (cF X f) := fun pins s st _ _ us _ I r h => h pins s st us I r
theorem cI_ix : IxR X (cI X) := fun value slice pins s st _ _ _ v u _ I r q h hs => h value slice pins s st v u I r q hs
theorem cL_sl : SlR X (cL X) := fun pins s st _ _ v vl vu _ _ sl _ I r hs pl pu h => h pins s st v vl vu sl I r hs pl pu
variable {st : St} {K : Hp}
theorem cE_of {e : Expr} {t : TE} {Q : VK} (h : PE X e t) (q : t st K Q) : cE X e st K Q := fun pins s I => h.run pins s st K Q I q
theorem cT_of {e : Expr} {t : TT} {Q : Bool → Hp → Prop} (h : PT X e t) (q : t st K Q) : cT X e st K Q := fun pins s I => h.run pins s st K Q I q
theorem cW_of {e : Expr} {t : TT} {Q : Bool → Hp → Prop} (h : PW X e t) (q : t st K Q) : cW X e st K Q := fun w pins s I => h.run w pins s st K Q I q
theorem cA_of {e : List Expr} {t : TA} {Q : List V → Hp → Prop} (h : PA X e t) (q : t st K Q) : cA X e st K Q := fun pos pins s I => h.run pos pins s st K Q I q
theorem cS_of {e : Stmt} {t : TS} {D : Ends} (h : PS X e t) (q : t D st K) : cS X e D st K := fun pins s I => h.run pins s st K D I q
theorem cB_of {e : List Stmt} {t : TS} {D : Ends} (h : PSs X e t) (q : t D st K) : cB X e D st K := fun pins s I => h.run pins s st K D I q
theorem cO_of {f : Value → Value → Sem Value} {r : R2} {x y : V} {Q : VK} (h : OpR X f r) (q : r x y K Q) : cO X f x y K Q := fun pins s st v u I a b => h pins s st K x y v u Q I a b q
theorem cU_of {f : Value → Sem Value} {r : V → Hp → VK → Prop} {x : V} {Q : VK} (h : UnR X f r) (q : r x K Q) : cU X f x K Q := fun pins s st v I a => h pins s st K x v Q I a q
theorem cF_of {f : Value} {r : List V → Hp → VK → Prop} {xs : List V} {Q : VK} (h : CallR X f r) (q : r xs K Q) : cF X f xs K Q := fun pins s st us I a => h pins s st K xs us Q I a q
theorem cM_of {id : String} {r : V → List V → Hp → VK → Prop} {x : V} {xs : List V} {Q : VK} (h : MtR X id r) (q : r x xs K Q) : cM X id x xs K Q := fun pins s st v us I a b => h pins s st K x xs v us Q I a b q
theorem cI_of {r : R2} {x y : V} {Q : VK} (h : IxR X r) (q : r x y K Q) : cI X x y K Q := fun value slice pins s st v u I a b hs => h value slice pins s st K x y v u Q I a b q hs
theorem cL_of {r : V → Option Int → Option Int → Hp → VK → Prop} {x : V} {lo hi : Option Int} {Q : VK} (h : SlR X r) (q : r x lo hi K Q) : cL X x lo hi K Q := fun pins s st v vl vu sl I a hs pl pu => h pins s st K x v vl vu lo hi sl Q I a hs pl pu q
end

/-! ### two heaps -/
/-- what is known for good stands (a dict may be walked meanwhile) -/
def Rdd (K : Hp) (a : Addr) (o : HO) : Prop := K a = some o ∨ ∃ kvs ob, o = .dK kvs ∧ K a = some (.frz ob (.dK kvs))
def Le (H K : Hp) : Prop := ∀ a o, H a = some o → Rdd K a o
theorem Same.le {H H' K : Hp} (h : Same H H') (l : Le H' K) : Le H K := fun a o e => l a o (h a o e)
theorem Rdd.rd {K : Hp} {a : Addr} {o : HO} (h : Rdd K a o) : Rd K a o := by
  rcases h with h | ⟨kvs, ob, rfl, h⟩
  · exact .inl h
  · exact .inr ⟨ob, h⟩
theorem Le.none {H K : Hp} (l : Le H K) {a : Addr} (h : K a = .none) : H a = .none := by
  cases e : H a with
  | none => rfl
  | some o =>
    rcases l a o e with q | ⟨_, _, _, q⟩
    · rw [h] at q; cases q
    · rw [h] at q; cases q
/-- exact where it is no dict -/
theorem Le.get {H K : Hp} (l : Le H K) {a : Addr} {o : HO} (h : H a = some o) (nd : ∀ kvs, o ≠ .dK kvs) : K a = some o := by
  rcases l a o h with q | ⟨kvs, _, e, _⟩
  · exact q
  · exact absurd e (nd kvs)
/-- a mode: the objects S that may change, what R is true of them -/
structure Md where
  S : Addr → Prop
  R : Hp → Hp → Prop
  loc : ∀ H K K', (∀ a, S a → K' a = K a) → R H K → R H K'
  mono : ∀ H H' K, Same H H' → R H K → R H' K
  dom : ∀ H K a, R H K → S a → K a ≠ none
structure J (M : Md) (H K : Hp) : Prop where
  le : Le H K
  off : ∀ a, M.S a → H a = none
  r : M.R H K
structure Go (M M' : Md) (H K H' K' : Hp) : Prop where
  j : J M' H' K'
  b : Same H H'
  k : ∀ a o, ¬ M.S a → K a = some o → K' a = some o
  f : ∀ a, H a = none → H' a ≠ none → K a = none
  d : ∀ a, K a ≠ none → K' a ≠ none
  s : M'.S = M.S
theorem Go.refl {M : Md} {H K : Hp} (j : J M H K) : Go M M H K H K := ⟨j, Same.refl H, fun _ _ _ h => h, fun _ h n => absurd h n, fun _ h => h, rfl⟩
theorem Go.trans {M M1 M2 : Md} {H K H1 K1 H2 K2 : Hp} (g : Go M M1 H K H1 K1) (g2 : Go M1 M2 H1 K1 H2 K2) : Go M M2 H K H2 K2 where
  j := g2.j
  b := g.b.trans g2.b
  k := fun a o n h => g2.k a o (by rw [g.s]; exact n) (g.k a o n h)
  f := fun a h n => by
    by_cases h1 : H1 a = none
    · have := g2.f a h1 n
      cases e : K a with
      | none => rfl
      | some o => exact absurd this (g.d a (by rw [e]; intro z; cases z))
    · exact g.f a h h1
  d := fun a h => g2.d a (g.d a h)
  s := g2.s.trans g.s
/-- an object of one's own: not known for good, it may still change -/
structure Own (M : Md) (H K : Hp) (p : Addr) (u : HO) : Prop where
  ns : ¬ M.S p
  h : H p = none
  k : K p = some u
theorem Go.own {M M' : Md} {H K H' K' : Hp} (g : Go M M' H K H' K') {p : Addr} {u : HO} (o : Own M H K p u) : Own M' H' K' p u := by
  refine ⟨by rw [g.s]; exact o.ns, ?_, g.k p u o.ns o.k⟩
  cases e : H' p with
  | none => rfl
  | some w =>
    have := g.f p o.h (by rw [e]; intro z; cases z)
    rw [o.k] at this; cases this
theorem J.fresh {M : Md} {H K : Hp} (j : J M H K) {p : Addr} (h : K p = none) : H p = none := j.le.none h
theorem J.nS {M : Md} {H K : Hp} (j : J M H K) {p : Addr} (h : K p = none) : ¬ M.S p := fun s => M.dom H K p j.r s h
theorem same_upd {H : Hp} {p : Addr} {o : HO} (h : H p = none) : Same H (upd H p o) := fun a u e => by
  rw [upd_ne (ne_of_none e h)]
  exact e
/-- a new object, known for good -/
theorem Go.new {M : Md} {H K : Hp} (j : J M H K) {p : Addr} {o : HO} (h : K p = none) : Go M M H K (upd H p o) (upd K p o) where
  j := {
    le := fun a u e => by
      by_cases q : a = p
      · subst q
        rw [upd_same] at e
        cases e
        exact .inl upd_same
      · rw [upd_ne q] at e
        unfold Rdd
        rw [upd_ne q]
        exact j.le a u e
    off := fun a s => by
      have q : a ≠ p := fun z => M.dom H K a j.r s (by rw [z]; exact h)
      rw [upd_ne q]
      exact j.off a s
    r := M.mono H _ _ (same_upd (j.fresh h)) (M.loc H K _ (fun a s => by
      have q : a ≠ p := fun z => M.dom H K a j.r s (by rw [z]; exact h)
      rw [upd_ne q]) j.r) }
  b := same_upd (j.fresh h)
  k := fun a u _ e => by rw [upd_ne (ne_of_none e h)]; exact e
  f := fun a e n => by
    by_cases q : a = p
    · rw [q]; exact h
    · rw [upd_ne q] at n; exact absurd e n
  d := fun a n => by
    by_cases q : a = p
    · rw [q, upd_same]; intro z; cases z
    · rw [upd_ne q]; exact n
  s := rfl
theorem Own.new {M : Md} {H K : Hp} (j : J M H K) {p : Addr} {o : HO} (h : K p = none) : Own M H (upd K p o) p o := ⟨j.nS h, j.fresh h, upd_same⟩
theorem Own.set {M : Md} {H K : Hp} {p : Addr} {o u : HO} (w : Own M H K p u) : Own M H (upd K p o) p o := ⟨w.ns, w.h, upd_same⟩
/-- it is known for good from now on -/
theorem J.keep {M : Md} {H K : Hp} (j : J M H K) {p : Addr} {u : HO} (w : Own M H K p u) : J M (upd H p u) K where
  le := fun a v e => by
    by_cases q : a = p
    · subst q
      rw [upd_same] at e
      cases e
      exact .inl w.k
    · rw [upd_ne q] at e
      exact j.le a v e
  off := fun a s => by
    have q : a ≠ p := fun z => w.ns (by rw [← z]; exact s)
    rw [upd_ne q]
    exact j.off a s
  r := M.mono H _ _ (same_upd w.h) j.r
theorem Go.keep {M0 M : Md} {H0 K0 H K : Hp} (g : Go M0 M H0 K0 H K) {p : Addr} {u : HO} (n0 : K0 p = none) (w : Own M H K p u) : Go M0 M H0 K0 (upd H p u) K where
  j := g.j.keep w
  b := g.b.trans (same_upd w.h)
  k := g.k
  f := fun a e n => by
    by_cases q : a = p
    · rw [q]; exact n0
    · rw [upd_ne q] at n; exact g.f a e n
  d := g.d
  s := g.s
theorem Own.stay {M : Md} {H K : Hp} {p q : Addr} {o u : HO} (w : Own M H K p u) (n : p ≠ q) : Own M (upd H q o) K p u := ⟨w.ns, by rw [upd_ne n]; exact w.h, w.k⟩
theorem Own.ne {M : Md} {H K : Hp} {p q : Addr} {o u : HO} (w : Own M H K p u) (w' : Own M H K q o) (d : u ≠ o) : p ≠ q := fun e => by
  subst e
  have := w.k.symm.trans w'.k
  exact d (Option.some.inj this)

/-! ### the context -/
structure Ct where
  P : Program
  w : World
  K : PySem.W.Frag
  mg : Str → Option Value
  base : Heap
  N : List Str
  sc : Scope
  k : Nat
  Wx : WX
  fa : Bool
inductive Con : Ct → Cx → Prop
  | mk (X : Cx) (k : Nat) (Wx : WX) (fa : Bool) (hr : Room k X.A) (hc : X.calm = true) (hp : PassesOwn (model X.prog X.w) X.A X.env X.xe) (ht : Takes X Wx) (hf : fa = true → ∀ x, X.fn x = true) (hN : X.N.Nodup) (hG : X.A.guards = some []) :
    Con ⟨X.prog, X.w, X.K, X.mg, X.base, X.N, X.env.scope, k, Wx, fa⟩ X
abbrev GlS (c : Ct) (x : Str) : Prop := c.sc.names.lookup x = some .globalImplicit
class Mono (P : VK) : Prop where
  mono : ∀ v H H', Same H H' → P v H → P v H'
abbrev Is (c : V) : VK := fun v _ => v = c
instance : Mono (Is c) := ⟨fun _ _ _ _ h => h⟩
/-- a list, a tuple of these -/
def IsL (xs : List V) : VK := fun v H => ∃ p, v = .ref p ∧ H p = some (.lst xs)
def IsT (xs : List V) : VK := fun v H => ∃ p, v = .ref p ∧ H p = some (.tup xs)
def IsD (kvs : List (Key × V)) : VK := fun v H => ∃ p, v = .ref p ∧ H p = some (.dK kvs)
theorem Le.lst {H K : Hp} (l : Le H K) {a : Addr} {xs : List V} (h : H a = some (.lst xs)) : K a = some (.lst xs) := l.get h (fun _ q => nomatch q)
theorem Le.tup {H K : Hp} (l : Le H K) {a : Addr} {xs : List V} (h : H a = some (.tup xs)) : K a = some (.tup xs) := l.get h (fun _ q => nomatch q)
/-- an int of which f is true -/
def Nt (f : Int → Prop) : VK := fun v _ => ∃ i, v = .int i ∧ f i
def St1 (f : Str → Prop) : VK := fun v _ => ∃ i, v = .str i ∧ f i
theorem same_sql {F : PySem.W.Frag} {H K : Hp} {a : Addr} {xs : List V} (l : Same H K) (h : SqL F H a xs) : SqL F K a xs := l.seq h
theorem same_sqt {F : PySem.W.Frag} {H K : Hp} {a : Addr} {xs : List V} (l : Same H K) (h : SqT F H a xs) : SqT F K a xs := by
  rcases h with (h | ⟨o, h⟩) | h
  · exact .inl (.inl (l _ _ h))
  · exact .inl (.inr ⟨o, l _ _ h⟩)
  · exact .inr h
instance {xs : List V} : Mono (IsL xs) := ⟨fun _ _ _ s ⟨p, e, h⟩ => ⟨p, e, s _ _ h⟩⟩
instance {xs : List V} : Mono (IsT xs) := ⟨fun _ _ _ s ⟨p, e, h⟩ => ⟨p, e, s _ _ h⟩⟩
instance {kvs : List (Key × V)} : Mono (IsD kvs) := ⟨fun _ _ _ s ⟨p, e, h⟩ => ⟨p, e, s _ _ h⟩⟩
instance {f : Int → Prop} : Mono (Nt f) := ⟨fun _ _ _ _ h => h⟩
instance {f : Str → Prop} : Mono (St1 f) := ⟨fun _ _ _ _ h => h⟩

/-! ### what evaluates to what -/
/-- e evaluates to a v of which P is true, from the mode M to the mode M'; or an error leaves, of which W is true -/
structure Ev (c : Ct) (M M' : Md) (e : Expr) (st : St) (H : Hp) (P : VK) (W : XK) : Prop where
  run : ∀ X, Con c X → ∀ K, J M H K → ∀ Q : VK, (∀ v H' K', Go M M' H K H' K' → P v H' → Q v K') → (∀ Mx cls d H' K', Go M Mx H K H' K' → W cls d H' → c.Wx cls d st K') → cE X e st K Q
structure EvT (c : Ct) (M M' : Md) (e : Expr) (st : St) (H : Hp) (P : Bool → Hp → Prop) (W : XK) : Prop where
  run : ∀ X, Con c X → ∀ K, J M H K → ∀ Q : Bool → Hp → Prop, (∀ v H' K', Go M M' H K H' K' → P v H' → Q v K') → (∀ Mx cls d H' K', Go M Mx H K H' K' → W cls d H' → c.Wx cls d st K') → cT X e st K Q
structure EvW (c : Ct) (M M' : Md) (e : Expr) (st : St) (H : Hp) (P : Bool → Hp → Prop) (W : XK) : Prop where
  run : ∀ X, Con c X → ∀ K, J M H K → ∀ Q : Bool → Hp → Prop, (∀ v H' K', Go M M' H K H' K' → P v H' → Q v K') → (∀ Mx cls d H' K', Go M Mx H K H' K' → W cls d H' → c.Wx cls d st K') → cW X e st K Q
structure EvA (c : Ct) (M M' : Md) (es : List Expr) (st : St) (H : Hp) (P : List V → Hp → Prop) (W : XK) : Prop where
  run : ∀ X, Con c X → ∀ K, J M H K → ∀ Q : List V → Hp → Prop, (∀ v H' K', Go M M' H K H' K' → P v H' → Q v K') → (∀ Mx cls d H' K', Go M Mx H K H' K' → W cls d H' → c.Wx cls d st K') → cA X es st K Q
/-- an operation by values -/
structure Op2 (c : Ct) (M : Md) (f : Value → Value → Sem Value) (x y : V) (H : Hp) (P : VK) : Prop where
  run : ∀ X, Con c X → ∀ K, J M H K → ∀ Q : VK, (∀ v H' K', Go M M H K H' K' → P v H' → Q v K') → cO X f x y K Q
structure Op1 (c : Ct) (M : Md) (f : Value → Sem Value) (x : V) (H : Hp) (P : VK) : Prop where
  run : ∀ X, Con c X → ∀ K, J M H K → ∀ Q : VK, (∀ v H' K', Go M M H K H' K' → P v H' → Q v K') → cU X f x K Q
structure OpI (c : Ct) (M : Md) (x y : V) (H : Hp) (P : VK) : Prop where
  run : ∀ X, Con c X → ∀ K, J M H K → ∀ Q : VK, (∀ v H' K', Go M M H K H' K' → P v H' → Q v K') → cI X x y K Q
structure OpL (c : Ct) (M : Md) (x : V) (lo hi : Option Int) (H : Hp) (P : VK) : Prop where
  run : ∀ X, Con c X → ∀ K, J M H K → ∀ Q : VK, (∀ v H' K', Go M M H K H' K' → P v H' → Q v K') → cL X x lo hi K Q
/-- a call by values -/
structure OpF (c : Ct) (M : Md) (f : Value) (xs : List V) (H : Hp) (P : VK) : Prop where
  run : ∀ X, Con c X → ∀ K, J M H K → ∀ Q : VK, (∀ v H' K', Go M M H K H' K' → P v H' → Q v K') → cF X f xs K Q
structure OpM (c : Ct) (M : Md) (id : String) (x : V) (xs : List V) (H : Hp) (P : VK) : Prop where
  run : ∀ X, Con c X → ∀ K, J M H K → ∀ Q : VK, (∀ v H' K', Go M M H K H' K' → P v H' → Q v K') → cM X id x xs K Q
section
variable {c : Ct} {M M1 M2 M3 : Md} {st : St} {H : Hp} {P P1 P2 P3 : VK} {W : XK} {e a b t : Expr} {es : List Expr} {pos : Pos} {v : V}
theorem Ev.imp (h : Ev c M M1 e st H P W) (k : ∀ v H', Same H H' → P v H' → P1 v H') : Ev c M M1 e st H P1 W := .mk fun X hX K j Q q x => h.run X hX K j Q (fun v H' K' g p => q v H' K' g (k v H' g.b p)) x
theorem EvT.imp {P P1 : Bool → Hp → Prop} (h : EvT c M M1 e st H P W) (k : ∀ v H', Same H H' → P v H' → P1 v H') : EvT c M M1 e st H P1 W := .mk fun X hX K j Q q x => h.run X hX K j Q (fun v H' K' g p => q v H' K' g (k v H' g.b p)) x
theorem EvA.imp {P P1 : List V → Hp → Prop} (h : EvA c M M1 es st H P W) (k : ∀ v H', Same H H' → P v H' → P1 v H') : EvA c M M1 es st H P1 W := .mk fun X hX K j Q q x => h.run X hX K j Q (fun v H' K' g p => q v H' K' g (k v H' g.b p)) x
theorem Ev.to (h : Ev c M M1 e st H P W) (k : P = P1) : Ev c M M1 e st H P1 W := k ▸ h
theorem Op2.imp {f : Value → Value → Sem Value} {x y : V} (h : Op2 c M f x y H P) (k : ∀ v H', Same H H' → P v H' → P1 v H') : Op2 c M f x y H P1 := .mk fun X hX K j Q q => h.run X hX K j Q fun v H' K' g p => q v H' K' g (k v H' g.b p)

/-! names and constants -/
/-! operators -/
/-! arguments -/
end
end Z

namespace Z
open PySem PySem.Spec PyProof.Rows L2
/-- a def's promise where no text is being shown around it -/
structure FnG (P : Program) (w : World) (F : PySem.W.Frag) (mg : Str → Option Value) (base : Heap) (k : Nat) (f : Addr) (fd : FuncData) (ps : List Str) (sp : Sp) : Prop where
  len : ∀ vs K Q E, sp vs K Q E → vs.length = ps.length
  run : ∀ A : Around, Room k A → A.guards = some [] → ∀ outer s K, Env0 P w F mg base A outer s K → ∀ args us vs, Vals vs us → BindsTo s fd args (ps.zip us) → ∀ Q E, sp vs K Q E →
    codeAny (model P w) A (.call (.ref f) args) (CR (L2.CX P w) outer P w K s Q E) s
section
variable {P : Program} {w : World} {F : PySem.W.Frag} {mg : Str → Option Value} {base : Heap} {k : Nat} {f : Addr} {fd : FuncData} {ps N : List Str} {sp : Sp}
theorem bind_kinds {ps : List Str} {us : List Value} {sc : Scope} {n : Nat} (S : FnScope N ps sc) : ∀ y ∈ ps.zip us, sc.names.lookup y.1 = some .local ∨ (sc.names.lookup y.1 = some .cell ∧ ((cellsFrom n sc.names []).lookup y.1).isSome = true) := by
  intro y hy
  obtain ⟨a, b⟩ := y
  have ha := (List.of_mem_zip hy).1
  cases S.par a ha with
  | inl q => exact .inl q
  | inr q => exact .inr ⟨q, PySem.W.cellsFrom_some _ _ _ (.inl q)⟩
end
end Z

namespace Z
open PySem L2
open PyProof.Rows (subscriptTail)

abbrev IsB (b : Bool) : Bool → Hp → Prop := fun x _ => x = b
/-- a weaker mode -/
structure Md.Le (M M' : Md) : Prop where
  s : M'.S = M.S
  r : ∀ H K, M.R H K → M'.R H K
theorem Md.Le.refl (M : Md) : Md.Le M M := ⟨rfl, fun _ _ h => h⟩
theorem Md.Le.go {M M' : Md} (l : Md.Le M M') {H K : Hp} (j : J M H K) : Go M M' H K H K :=
  ⟨⟨j.le, fun a s => j.off a (by rw [← l.s]; exact s), l.r _ _ j.r⟩, Same.refl H, fun _ _ _ h => h, fun _ h n => absurd h n, fun _ h => h, l.s⟩

section
variable {c : Ct} {M M1 M2 M3 : Md} {st : St} {H : Hp} {P P1 P2 P3 : VK} {W : XK} {e a b t : Expr} {es rest : List Expr} {pos : Pos} {v : V} {B B1 B2 : Bool → Hp → Prop}
theorem Ev.weak (l : Md.Le M1 M2) (h : Ev c M M1 e st H P W) : Ev c M M2 e st H P W := .mk fun X hX K j Q q x => h.run X hX K j Q (fun v H' K' g p => q v H' K' (g.trans (l.go g.j)) p) x
theorem EvT.weak (l : Md.Le M1 M2) (h : EvT c M M1 e st H B W) : EvT c M M2 e st H B W := .mk fun X hX K j Q q x => h.run X hX K j Q (fun v H' K' g p => q v H' K' (g.trans (l.go g.j)) p) x

/-! tests -/
/-! and, or as values -/
/-! lists, tuples written -/
/-! calls -/
end

/-! ### what is walked -/
def cP (X : Cx) (tg iter : Expr) : TI := fun st K R => ∀ pins s, Inv X pins st K s → wpAny (model X.prog X.w) X.A (eval iter X.env) (fun v s1 => wpAny (model X.prog X.w) X.A (pyIter v) (PIE X pins st tg R) X.xe s1) X.xe s
theorem cP_pi {X : Cx} {tg iter : Expr} : PI X tg iter (cP X tg iter) := ⟨fun pins s _ _ _ I h => h pins s I⟩
theorem cP_of {X : Cx} {tg iter : Expr} {t : TI} {st : St} {K : Hp} {R : It → Hp → Prop} (h : PI X tg iter t) (q : t st K R) : cP X tg iter st K R := fun pins s I => h.run pins s st K R I q
/-- iter is walked: n items, the i-th is a v of which Y i is true -/
structure EvI (c : Ct) (M M' : Md) (tg iter : Expr) (st : St) (H : Hp) (n : Nat) (Y : Nat → VK) (W : XK) : Prop where
  run : ∀ X, Con c X → ∀ K, J M H K → ∀ R : It → Hp → Prop, (∀ Jt G Yh H1 K1, Go M M' H K H1 K1 → Walk Jt n G Yh → (∀ H' K', Same H1 H' → Le H' K' → G K') → (∀ i x H' K' K'', i < n → Same H1 H' → Yh i K' x K'' → K'' = K' ∧ Y i x H') → R Jt K1) →
    (∀ Mx cls d H' K', Go M Mx H K H' K' → W cls d H' → c.Wx cls d st K') → cP X tg iter st K R
/-- the items are new pairs -/
structure EvI2 (c : Ct) (M M' : Md) (tg iter : Expr) (st : St) (H : Hp) (n : Nat) (Y Z : Nat → VK) (W : XK) : Prop where
  run : ∀ X, Con c X → ∀ K, J M H K → ∀ R : It → Hp → Prop, (∀ Jt G Yh H1 K1, Go M M' H K H1 K1 → Walk Jt n G Yh → (∀ H' K', Same H1 H' → Le H' K' → G K') →
    (∀ i x H' K' K'', i < n → Same H1 H' → Yh i K' x K'' → ∃ T y z, x = .ref T ∧ K' T = none ∧ K'' = upd K' T (.tup [y, z]) ∧ Y i y H' ∧ Z i z H') → R Jt K1) →
    (∀ Mx cls d H' K', Go M Mx H K H' K' → W cls d H' → c.Wx cls d st K') → cP X tg iter st K R
section
variable {c : Ct} {M M1 M2 M3 : Md} {st : St} {H : Hp} {P P1 P2 P3 : VK} {W : XK} {tg e a b t : Expr} {es rest : List Expr} {pos : Pos} {v : V}
end
end Z

namespace Z
open PySem L2
open PyProof.Rows (subscriptTail)

/-- the context of a comprehension's block -/
abbrev Ct.blk (c : Ct) (scope : Scope) : Ct := ⟨c.P, c.w, c.K, c.mg, c.base, c.N, relS scope c.sc, c.k, fun _ _ _ _ => False, false⟩
theorem con_blk {X : Cx} {k : Nat} {Wx : WX} {fa : Bool} {scope : Scope} (hr : Room k X.A) (hc : X.calm = true) (hN : X.N.Nodup) (hU : X.A.guards = some []) (s0 : Shared) (H0 : Hp) (C : Addr) (cl : List (Str × Addr)) (fp : List Addr) :
    Con (Ct.blk ⟨X.prog, X.w, X.K, X.mg, X.base, X.N, X.env.scope, k, Wx, fa⟩ scope) (X.blk s0 H0 scope (compEnvC scope cl C X.env) fp) :=
  Con.mk (X.blk s0 H0 scope (compEnvC scope cl C X.env) fp) k (fun _ _ _ _ => False) false hr hc PassesOwn.never takes0 (fun z => nomatch z) hN hU
def cTs (X : Cx) (ifs : List Expr) : TT := fun st K Q => ∀ pins s, Inv X pins st K s → wpAny (model X.prog X.w) X.A (forIn ifs true fun c r => if r = true then do let ok ← isTrue c X.env (eval c X.env); pure (ForInStep.yield ok) else pure (ForInStep.yield r)) (TP X pins st Q) X.xe s
theorem cTs_of {X : Cx} {ifs : List Expr} {t : TT} {st : St} {K : Hp} {Q : Bool → Hp → Prop} (h : PTs X ifs t) (q : t st K Q) : cTs X ifs st K Q := fun pins s I => h.run pins s st K Q I q
structure EvTs (c : Ct) (M M' : Md) (ifs : List Expr) (st : St) (H : Hp) (P : Bool → Hp → Prop) (W : XK) : Prop where
  run : ∀ X, Con c X → ∀ K, J M H K → ∀ Q : Bool → Hp → Prop, (∀ v H' K', Go M M' H K H' K' → P v H' → Q v K') → (∀ Mx cls d H' K', Go M Mx H K H' K' → W cls d H' → c.Wx cls d st K') → cTs X ifs st K Q
section
variable {c : Ct} {M M1 M2 : Md} {st : St} {H : Hp} {B : Bool → Hp → Prop} {W : XK} {e : Expr}
end

/-- one name, two names as the target of a comprehension or a loop -/
def IsN (c : Ct) (tg : Expr) (j : Nat) : Prop := ∃ x pos, tg = .Name x pos ∧ c.N[j]? = some x ∧ Loc c.sc x ∧ (c.fa = true ∨ c.sc.names.lookup x = some .local)
theorem isN_pg {c : Ct} {tg : Expr} {j : Nat} {X : Cx} (h : IsN c tg j) (hX : Con c X) : PG X tg (gName j) := by
  obtain ⟨x, pos, rfl, h1, h2, h3⟩ := h
  cases hX with
  | mk _ k' Wx fa hr hc hp' ht hf hN hU =>
    refine pg_name hN h1 h2 ?_
    rcases h3 with h3 | h3
    · exact .inl (hf h3 x)
    · exact .inr h3
section
variable {c : Ct} {M M1 : Md} {Mi : Nat → Md} {st : St} {H : Hp} {W : XK} {tg iter elt kx vx : Expr} {ifs : List Expr} {scope : Scope} {pos : Pos} {n : Nat} {Y Y2 : Nat → VK} {own : List (Str × Nat)}
end
end Z

namespace Z
open PySem L2
open PyProof.Rows (subscriptTail)

section
variable {c : Ct} {M M1 M2 : Md} {Mi : Nat → Md} {st : St} {H : Hp} {W : XK} {P : VK} {tg iter elt kx vx : Expr} {ifs : List Expr} {scope : Scope} {pos : Pos} {n : Nat} {Y Y2 : Nat → VK} {own : List (Str × Nat)}

end

/-! ### statements -/
section
variable {c : Ct} {X : Cx} {M0 M M1 M2 : Md} {Mi : Nat → Md} {H0 K0 H K : Hp} {st : St} {D : Ends} {W : XK} {P : VK} {e a b tg iter elt kx vx : Expr} {ifs : List Expr} {scope : Scope} {pos p1 : Pos} {n : Nat} {Y Y2 : Nat → VK} {own : List (Str × Nat)} {s : Stmt} {r b1 b2 : List Stmt} {x : Str}
theorem b_cons (h : cS X s { D with nx := cB X r D } st K) : cB X (s :: r) D st K := cB_of (pss_cons cS_ps cB_pss) h
theorem b_nil (h : D.nx st K) : cB X [] D st K := cB_of pss_nil h
/-- a name that is stored -/
def StoreN (c : Ct) (x : Str) (i : Nat) : Prop := c.N[i]? = some x ∧ Loc c.sc x ∧ (c.fa = true ∨ c.sc.names.lookup x = some .local)
end
end Z

namespace Z
open PySem L2
open PyProof.Rows (subscriptTail)
section
variable {c : Ct} {X : Cx} {M0 M M1 M2 : Md} {Mi : Nat → Md} {H0 K0 H K : Hp} {st : St} {D : Ends} {W : XK} {P : VK} {e a b tg iter elt kx vx : Expr} {ifs : List Expr} {scope : Scope} {pos p1 : Pos} {n : Nat} {Y Y2 : Nat → VK} {own : List (Str × Nat)} {s : Stmt} {r b1 b2 body : List Stmt} {x : Str}
end

/-! ### a def -/
section
variable {P : Program} {w : World} {F : PySem.W.Frag} {mg : Str → Option Value} {base : Heap}
end
end Z

namespace Z
open PySem L2 SX
open PyProof.Rows (subscriptTail)

section
variable {c : Ct} {M : Md} {H : Hp} {P : VK} {i j : Int} {a b l : List Nat} {x y : V} {xs ys : List V} {p q : Addr}

/-! ### ints -/
/-! ### ==, !=, is -/
theorem dec_I : decide (V.int i = V.int j) = decide (i = j) := decide_eq_decide.mpr ⟨fun h => V.int.inj h, fun h => by rw [h]⟩
theorem dec_S : decide (V.str (S a) = V.str (S b)) = decide (a = b) := decide_eq_decide.mpr ⟨fun h => S_inj (V.str.inj h), fun h => by rw [h]⟩
/-! ### texts -/
theorem mul_S {n : Int} : Txt.mul (S a) n = S (List.replicate n.toNat a).flatten := by
  have f0 : ∀ (m : Nat) (acc : Array Nat), (List.replicate m (S a).cps).foldl (· ++ ·) acc = (acc.toList ++ (List.replicate m a).flatten).toArray := by
    intro m
    induction m with
    | zero => intro acc; simp
    | succ m ih => intro acc; rw [List.replicate_succ, List.foldl_cons, ih]; simp [List.replicate_succ, S]
  unfold Txt.mul
  by_cases h1 : n < 1
  · rw [if_pos h1, show n.toNat = 0 by omega]
    rfl
  · rw [if_neg h1]
    by_cases h2 : (n == 1 || (S a).length == 0) = true
    · rw [if_pos h2]
      rw [Bool.or_eq_true] at h2
      rcases h2 with h2 | h2
      · have : n = 1 := by simpa using h2
        subst this
        simp [S]
      · rw [S_len] at h2
        have : a = [] := by simpa using h2
        subst this
        simp [S]
    · rw [if_neg h2, f0]
      simp [S]
/-! ### lists -/
/-! ### subscripts, slices -/
/-- a[lo:hi] of a text's codes -/
def cutN (a : List Nat) (lo hi : Option Int) : List Nat := (a.drop (HT.sIx a.length 0 lo)).take (HT.sIx a.length a.length hi - HT.sIx a.length 0 lo)
theorem cutS_S {lo hi : Option Int} : cutS (S a) lo hi = S (cutN a lo hi) := by
  unfold cutS cutN
  rw [S_len]
/-! ### built-in functions -/
/-- what a value's class is -/
inductive TyZ (F : PySem.W.Frag) (H : Hp) : V → String → Prop
  | non : TyZ F H .non "NoneType"
  | bl (b : Bool) : TyZ F H (.bl b) "bool"
  | int (i : Int) : TyZ F H (.int i) "int"
  | str (x : Str) : TyZ F H (.str x) "str"
  | lst {a : Addr} {xs : List V} (e : H a = some (.lst xs)) : TyZ F H (.ref a) "list"
  | tup {a : Addr} {xs : List V} (e : H a = some (.tup xs)) : TyZ F H (.ref a) "tuple"
  | dK {a : Addr} {kvs : List (Key × V)} (e : H a = some (.dK kvs)) : TyZ F H (.ref a) "dict"
/-! ### methods -/
end
end Z

namespace Z
open PySem L2 SX
open PyProof.Rows (subscriptTail)
/-- a local name's value -/
def lk (N : List Str) (st : St) (x : Str) : Option V := if N.idxOf x < N.length then (match st[N.idxOf x]? with | some (some v) => some v | _ => none) else none
def visB (sc : Scope) (x : Str) : Bool := match sc.names.lookup x with | some .local => true | some .cell => true | some .free => true | _ => false
theorem visB_vis {sc : Scope} {x : Str} (h : visB sc x = true) : Vis sc x := by
  unfold visB at h
  unfold Vis
  split at h
  · next e => exact .inl e
  · next e => exact .inr (.inl e)
  · next e => exact .inr (.inr e)
  · cases h
section
variable {c : Ct} {M M1 M2 : Md} {st : St} {H : Hp} {P P1 P2 : VK} {W : XK} {e a b : Expr} {es : List Expr} {pos p : Pos} {v : V} {vs : List V}
/-- a comprehension whose elements are told by their place, kept where t says so -/
def kept (n : Nat) (t : Nat → Bool) (f : Nat → V) : List V := ((List.range n).filter t).map f
end
/-- the letters -/
def LET : List Nat := [97, 98, 99, 100, 101, 102, 103, 104, 105, 106, 107, 108, 109, 110, 111, 112, 113, 114, 115, 116, 117, 118, 119, 120, 121, 122]
def isLet (k : Nat) : Bool := decide (97 ≤ k) && decide (k ≤ 122)
theorem mem_LET (k : Nat) : decide (k ∈ LET) = isLet k := by
  unfold isLet LET
  rw [Bool.eq_iff_iff, Bool.and_eq_true, decide_eq_true_eq, decide_eq_true_eq, decide_eq_true_eq]
  simp only [List.mem_cons, List.not_mem_nil, or_false]
  omega
theorem LET_str : ("abcdefghijklmnopqrstuvwxyz" : Str) = S LET := by decide +kernel
end Z
namespace Z
open PySem L2 SX
theorem bt_len : bootBuiltins "len" = some (.builtin "len") := by decide +kernel
theorem bt_min : bootBuiltins "min" = some (.builtin "min") := by decide +kernel
theorem bt_max : bootBuiltins "max" = some (.builtin "max") := by decide +kernel
theorem bt_abs : bootBuiltins "abs" = some (.builtin "abs") := by decide +kernel
theorem bt_all : bootBuiltins "all" = some (.builtin "all") := by decide +kernel
theorem bt_sum : bootBuiltins "sum" = some (.builtin "sum") := by decide +kernel
theorem bt_sorted : bootBuiltins "sorted" = some (.builtin "sorted") := by decide +kernel
theorem bt_repr : bootBuiltins "repr" = some (.builtin "repr") := by decide +kernel
theorem bt_isinstance : bootBuiltins "isinstance" = some (.builtin "isinstance") := by decide +kernel
theorem bt_int : bootBuiltins "int" = some (.type "int") := by decide +kernel
theorem bt_str : bootBuiltins "str" = some (.type "str") := by decide +kernel
theorem bt_bool : bootBuiltins "bool" = some (.type "bool") := by decide +kernel
theorem bt_list : bootBuiltins "list" = some (.type "list") := by decide +kernel
theorem bt_tuple : bootBuiltins "tuple" = some (.type "tuple") := by decide +kernel
theorem bt_dict : bootBuiltins "dict" = some (.type "dict") := by decide +kernel
theorem bt_set : bootBuiltins "set" = some (.type "set") := by decide +kernel
/-- a def of the text as the top left it -/
def DfN (F : PySem.W.Frag) (mg : Str → Option Value) (x : Str) (ps : List Str) (st : Stmt) : Prop := ∃ f fd, mg x = some (.ref f) ∧ Fun F x x st f fd ∧ Binds F fd ps []
end Z

namespace Z
open PySem PySem.Spec PyProof.Rows L2
/-- what the caller of the law is told at the end -/
abbrev LawEnd (s1 : Shared) : Result → Shared → Prop := fun r s2 => r = .ok (.ret (.bool true)) ∧ OldK s1.heap s2.heap ∧ s2.os = s1.os ∧ AllBare s2.gens
section
variable {P : Program} {w : World} {F : PySem.W.Frag} {mg mb : Str → Option Value} {k : Nat} {fa a : Addr} {fd : FuncData} {x : Str} {sp : Sp} {s1 : Shared} {vs : List Value} {ns : List Int} {H : Hp}
/-- the law's promise at a heap in which the script alone may be tracked -/
theorem law_in (inn : F.In s1.heap) (hns : s1.heap.Ns mainGlobals mg) (hb : s1.heap.Ns builtinsNs mb) (hbb : ∀ x : Str, x ≠ "__name__" → mb x = bootBuiltins x) (lim : s1.heap.NoLimit) (bare : s1.gens = #[])
    (ha : s1.heap.get? a = some { cls := .type "list", data := .seq vs.toArray }) (hr : Room k callerA) (G : ∀ base : Heap, F.In base → base.Ns mainGlobals mg → FnG P w F mg base k fa fd [x] sp)
    (hbind : ∀ (s : Shared) (u : Value), BindsTo s fd ⟨[u], []⟩ [(x, u)]) (hsp : sp [.ref a] H (fun v _ => v = .bl true) fun _ _ _ => False)
    (only : Only H) (hok : HOk P w H s1.heap) (one : ∀ b, H b ≠ none → b = a) (notF : H a ≠ none → F.lookup a = none) : codeAny (model P w) callerA (.call (.ref fa) ⟨[.ref a], []⟩) (LawEnd s1) s1 := by
  have away : ∀ {b : Addr} {o : Obj}, s1.heap.get? b = some o → o.data ≠ .seq vs.toArray → H b = none := fun {b o} e d => by
    cases q : H b with
    | none => rfl
    | some u =>
      obtain rfl := one b (by rw [q]; exact Option.some_ne_none _)
      rw [ha] at e
      cases e
      exact absurd rfl d
  have names : ∀ {b : Addr} {m : Str → Option Value}, s1.heap.Ns b m → (hidT s1.heap H).Ns b m := fun {b m} h => by
    obtain ⟨o, es, ep, e, d, r⟩ := h
    exact ⟨o, es, ep, hidT_get e (away e (by rw [d]; exact fun z => nomatch z)), d, r⟩
  have innB : F.In (hidT s1.heap H) := fun b o e => hidT_get (inn b o e) (by
    cases q : H b with
    | none => rfl
    | some u =>
      have ne : H b ≠ none := by rw [q]; exact Option.some_ne_none _
      obtain rfl := one b ne
      rw [notF ne] at e
      cases e)
  obtain ⟨mc, l1, l2⟩ := lim
  have e0 : Env0 P w F mg (hidT s1.heap H) callerA [] s1 H := ⟨rfl, ⟨innB, names hns, ⟨mb, names hb, hbb⟩, ⟨mc, names l1, l2⟩⟩, fun b o e => of_hidT e, Nat.le_of_eq (hidT_size _ _), trivial, fun b z => absurd z (List.not_mem_nil), hok, .of_eq bare⟩
  refine codeAny_mono ((G _ innB (names hns)).run callerA hr rfl [] s1 H e0 ⟨[.ref a], []⟩ [.ref a] [.ref a] (.cons rfl .nil) (hbind s1 (.ref a)) _ _ hsp) fun r s2 z => ?_
  match r, z with
  | .error e, z =>
    obtain ⟨_, _, _, _, _, _, _, _, _, _, _, _, n⟩ := z
    exact n.elim
  | .ok .next, z => exact z.elim
  | .ok .brk, z => exact z.elim
  | .ok .cont, z => exact z.elim
  | .ok (.ret u), ⟨v, H2, e1, e2, un, ok2, r2, q2⟩ =>
    subst q2
    obtain rfl : u = Value.bool true := r2
    refine ⟨rfl, OldK.of_keep fun b o e => ?_, e1, e2⟩
    rcases only b with q | ⟨ob, xs, q⟩
    · exact un.keep b o e q (by intro z; exact absurd (show b ∈ ([] : List Addr) from z) List.not_mem_nil) (by simp)
    · have f1 := (hok b _ q).1
      rw [f1] at e
      cases e
      exact (ok2 b _ (un.frzs b _ _ q)).1
/-- the law's call -/
theorem law_run (inn : F.In s1.heap) (hns : s1.heap.Ns mainGlobals mg) (hb : s1.heap.Ns builtinsNs mb) (hbb : ∀ x : Str, x ≠ "__name__" → mb x = bootBuiltins x) (lim : s1.heap.NoLimit) (bare : s1.gens = #[])
    (ha : s1.heap.get? a = some { cls := .type "list", data := .seq vs.toArray }) (hi : IntsAre vs ns) (hl : ns.length ≤ sizeLine) (hr : Room k callerA)
    (G : ∀ base : Heap, F.In base → base.Ns mainGlobals mg → FnG P w F mg base k fa fd [x] sp) (hbind : ∀ (s : Shared) (u : Value), BindsTo s fd ⟨[u], []⟩ [(x, u)])
    (hsp : ∀ H : Hp, Only H → SqL F H a (ns.map V.int) → sp [.ref a] H (fun v _ => v = .bl true) fun _ _ _ => False) : codeAny (model P w) callerA (.call (.ref fa) ⟨[.ref a], []⟩) (LawEnd s1) s1 := by
  have rv := vals_ints hi
  cases hk : F.lookup a with
  | some o =>
    obtain rfl := Option.some.inj ((inn a o hk).symm.trans ha)
    have on : Only fun _ => none := fun _ => .inl rfl
    refine law_in (H := fun _ => none) inn hns hb hbb lim bare ha hr G hbind (hsp _ on (.inr ⟨_, vs.toArray, _, hk, rfl, rfl, rfl, ?_, by simpa using rv⟩)) on (fun _ _ z => nomatch z) (fun _ z => absurd rfl z) (fun z => absurd rfl z)
    rw [List.size_toArray, hi.length]
    exact hl
  | none =>
    let u : HO := .frz { cls := .type "list", data := .seq vs.toArray } (.lst (ns.map V.int))
    have at_a : (upd (fun _ => none) a u : Hp) a = some u := upd_same
    have off : ∀ b, b ≠ a → (upd (fun _ => none) a u : Hp) b = none := fun b z => upd_ne z
    have on : Only (upd (fun _ => none) a u) := fun b => by
      by_cases e : b = a
      · subst e
        exact .inr ⟨_, _, at_a⟩
      · exact .inl (off b e)
    refine law_in (H := upd (fun _ => none) a u) inn hns hb hbb lim bare ha hr G hbind (hsp _ on (.inl (.inr ⟨_, at_a⟩))) on (fun b q z => ?_) (fun b z => Decidable.byContradiction fun e => z (off b e)) (fun _ => hk)
    by_cases e : b = a
    · subst e
      rw [at_a] at z
      cases z
      exact ⟨ha, by rw [List.length_map]; exact hl, vs, _, rv, ha⟩
    · rw [off b e] at z
      cases z
end
/-- the goal that the head leaves, from the law's promise; the script's ints are of at most 1048576 bits -/
theorem walkG {l : PySem.W.OpenLaw} {n k : Nat} {q : Program} {loose : List Str} {XP : (Str → Option Value) → Heap → Prop} {YP : World → Heap → Prop} {d : DefRec} {K : Params → PySem.W.Frag} {sp : World → Sp} {x : Str}
    (hn : l.most = some n) (hn2 : n ≤ sizeLine) (hdf : d.params.defaults = []) (hr : Room k callerA) (hY : ∀ (w : World) (h : Heap), YP w h → (K w.params).In h)
    (G : ∀ (w : World) (mg : Str → Option Value) (fa : Addr) (h : Heap), (K w.params).In h → h.Ns mainGlobals mg → mg d.name = some (.ref fa) →
      ∃ fd : FuncData, (∀ (s : Shared) (u : Value), BindsTo s fd ⟨[u], []⟩ [(x, u)]) ∧ ∀ base : Heap, (K w.params).In base → base.Ns mainGlobals mg → FnG l.prog w (K w.params) mg base k fa fd [x] (sp w))
    (hsp : ∀ (w : World) (H : Hp) (a : Addr) (ns : List Int), ns.length ≤ n → (∀ z ∈ ns, Builtin.Int.intBits z ≤ 1048576) → Only H → SqL (K w.params) H a (ns.map V.int) → sp w [.ref a] H (fun v _ => v = .bl true) fun _ _ _ => False) :
    PySem.W.WalkO q loose XP YP l.row.toRowW d [] (fun f vs => PySem.call f vs) := by
  refine Att.attach_callB hn hdf fun w s0 s1 mg mb fa o pm cd doc a vs ns B Y ho hd hcd hmg hobj hints hlen hbits hg => ?_
  obtain ⟨fd, b, g⟩ := G w mg fa _ (hY w _ Y) B.T.g hmg
  exact law_run (hY w _ Y) B.T.g B.T.b B.T.builtins B.T.nolimit hg hobj hints (Nat.le_trans hlen hn2) hr g b fun H on s => hsp w H a ns hlen hbits on s
end Z

namespace Z
open PySem L2 SX
open PyProof.Rows (subscriptTail)
section
variable {c : Ct} {M M1 M2 : Md} {st : St} {H : Hp} {P P1 P2 P3 : VK} {W : XK} {e a b d : Expr} {es : List Expr} {pos pos' p1 : Pos} {vs : List V}
theorem OpF.imp {f : Value} {xs : List V} (h : OpF c M f xs H P) (k : ∀ v H', Same H H' → P v H' → P1 v H') : OpF c M f xs H P1 := .mk fun X hX K j Q q => h.run X hX K j Q fun v H' K' g p => q v H' K' g (k v H' g.b p)
theorem OpI.imp {x y : V} (h : OpI c M x y H P) (k : ∀ v H', Same H H' → P v H' → P1 v H') : OpI c M x y H P1 := .mk fun X hX K j Q q => h.run X hX K j Q fun v H' K' g p => q v H' K' g (k v H' g.b p)
theorem OpM.imp {id : String} {x : V} {xs : List V} (h : OpM c M id x xs H P) (k : ∀ v H', Same H H' → P v H' → P1 v H') : OpM c M id x xs H P1 := .mk fun X hX K j Q q => h.run X hX K j Q fun v H' K' g p => q v H' K' g (k v H' g.b p)
/-! ### dicts that are known for good -/
/-! ### data that is shown, that is held against other data -/
/-! ### two names at once -/
end
end Z

namespace Z
open PySem PySem.Spec L2 SX
/-- a list that is new since H -/
abbrev NewL (H : Hp) (xs : List V) : VK := fun v H' => ∃ p, v = .ref p ∧ H p = none ∧ H' p = some (.lst xs)
instance {H : Hp} {xs : List V} : Mono (NewL H xs) := ⟨fun _ _ _ s ⟨p, e, n, h⟩ => ⟨p, e, n, s _ _ h⟩⟩
/-! ### names stored from the items of a list -/
def IsNs (c : Ct) : List Expr → List Nat → Prop
  | [], [] => True
  | e :: es, j :: js => IsN c e j ∧ IsNs c es js
  | _, _ => False
def gNs : List Nat → TGs
  | [] => gNil
  | j :: js => gCons (gName j) (gNs js)
def setAll (st : St) : List Nat → List V → St
  | j :: js, x :: xs => setAll (st.set j (some x)) js xs
  | _, _ => st
theorem gNs_of {K : Hp} {Q : L2.St → Hp → Prop} : ∀ (js : List Nat) (xs : List V) (st : L2.St), xs.length = js.length → Q (setAll st js xs) K → gNs js xs st K Q
  | [], [], _, _, q => ⟨rfl, q⟩
  | [], _ :: _, _, h, _ => nomatch h
  | _ :: _, [], _, h, _ => nomatch h
  | _ :: js, x :: xs, _, h, q => ⟨x, xs, rfl, gNs_of js xs _ (Nat.succ.inj h) q⟩
theorem pgs_names {c : Ct} {X : Cx} (hX : Con c X) : ∀ {es : List Expr} {js : List Nat}, IsNs c es js → PGs X es (gNs js) ∧ (assignEach es X.env).length = js.length ∧ (assignEach es X.env).findIdx? (·.1) = none
  | [], [], _ => ⟨pgs_nil, rfl, rfl⟩
  | e :: es, j :: js, ⟨h1, h2⟩ => by
    obtain ⟨q1, q2, q3⟩ := pgs_names hX h2
    have g := isN_pg h1 hX
    obtain ⟨x, p, rfl, _⟩ := h1
    refine ⟨pgs_cons g q1, ?_, ?_⟩
    · show (assignEach es X.env).length + 1 = js.length + 1
      rw [q2]
    · show ((false, assign (.Name x p) X.env) :: assignEach es X.env).findIdx? (·.1) = none
      rw [List.findIdx?_cons, q3]
      rfl
section
variable {c : Ct} {X : Cx} {M0 M M1 M2 : Md} {Mi : Nat → Md} {H0 K0 H K : Hp} {st : L2.St} {D : Ends} {W : XK} {P P1 : VK} {e a b o tg iter elt kx vx : Expr} {es : List Expr} {ifs : List Expr} {scope : Scope} {pos p1 apos : Pos} {n : Nat} {Y Y2 : Nat → VK} {own : List (Str × Nat)} {x : Str}
end
section
variable {c : Ct} {X : Cx} {M0 M M1 M2 : Md} {Mi : Nat → Md} {H0 K0 H K : Hp} {st : L2.St} {D : Ends} {W : XK} {tg iter kx vx : Expr} {ifs : List Expr} {scope : Scope} {pos p1 p2 : Pos} {n : Nat} {Y Y2 : Nat → VK} {own : List (Str × Nat)} {x : Str}
end
end Z

namespace Z
open PySem PySem.Spec L2 SX
section
variable {c : Ct} {M M1 M2 : Md} {st : L2.St} {H : Hp} {P P1 P2 : VK} {W : XK} {e a b : Expr} {es rest : List Expr} {pos : Pos}
theorem Ev.cast {i j : Int} (h : Ev c M M1 e st H (Is (.int i)) W) (q : i = j) : Ev c M M1 e st H (Is (.int j)) W := q ▸ h
theorem Ev.castS {l k : List Nat} (h : Ev c M M1 e st H (Is (.str (S l))) W) (q : l = k) : Ev c M M1 e st H (Is (.str (S k))) W := q ▸ h
theorem Ev.castB {p r : Bool} (h : Ev c M M1 e st H (Is (.bl p)) W) (q : p = r) : Ev c M M1 e st H (Is (.bl r)) W := q ▸ h
theorem EvT.castB {p r : Bool} (h : EvT c M M1 e st H (IsB p) W) (q : p = r) : EvT c M M1 e st H (IsB r) W := q ▸ h
end
/-! ### what holds between two statements -/
theorem cS.nx {X : Cx} {s : Stmt} {D : Ends} {Q : L2.St → Hp → Prop} {st : L2.St} {K : Hp} (h : cS X s { D with nx := Q } st K) (k : ∀ st2 K2, Q st2 K2 → D.nx st2 K2) : cS X s D st K := fun pins s I => by
  refine wpAny_mono (h pins s I) (fun fl s2 z => ?_) (fun _ _ z => z)
  match fl, z with
  | .next, ⟨st2, K2, I2, q⟩ => exact ⟨st2, K2, I2, k st2 K2 q⟩
  | .brk, z => exact z
  | .cont, z => exact z
  | .ret u, z => exact z
/-! ### slices and places of texts -/
theorem cut_le {a : List Nat} {lo hi : Option Int} {n : Nat} (h : a.length ≤ n) : (cutN a lo hi).length ≤ n := by
  unfold cutN
  rw [List.length_take, List.length_drop]
  omega
theorem app_le {a b : List Nat} {i j : Nat} (h1 : a.length ≤ i) (h2 : b.length ≤ j) : (a ++ b).length ≤ i + j := by
  rw [List.length_append]
  exact Nat.add_le_add h1 h2
theorem cut_two {a : List Nat} {i j : Nat} {x y : Int} (hx : x = (i : Int)) (hy : y = (j : Int)) : cutN a (some x) (some y) = (a.drop i).take (j - i) := by
  subst hx hy
  unfold cutN
  rw [HT.sIx_nat, HT.sIx_nat]
  by_cases h : i ≤ a.length
  · rw [Nat.min_eq_left h]
    by_cases h2 : j ≤ a.length
    · rw [Nat.min_eq_left h2]
    · rw [Nat.min_eq_right (by omega), List.take_of_length_le (by rw [List.length_drop]; omega), List.take_of_length_le (by rw [List.length_drop]; omega)]
  · rw [Nat.min_eq_right (show a.length ≤ i by omega), List.drop_length, List.drop_of_length_le (by omega), List.take_nil, List.take_nil]
theorem cut_to {a : List Nat} {j : Nat} {y : Int} (hy : y = (j : Int)) : cutN a none (some y) = a.take j := by
  have h : cutN a none (some y) = cutN a (some 0) (some y) := by
    unfold cutN
    rw [HT.sIx_none, show (0 : Int) = ((0 : Nat) : Int) from rfl, HT.sIx_nat]
    simp
  rw [h, cut_two (x := 0) (i := 0) rfl hy]
  simp
theorem cut_from {a : List Nat} {i : Nat} {x : Int} (hx : x = (i : Int)) : cutN a (some x) none = a.drop i := by
  subst hx
  unfold cutN
  rw [HT.sIx_nat, HT.sIx_none]
  by_cases h : i ≤ a.length
  · rw [Nat.min_eq_left h, List.take_of_length_le (by rw [List.length_drop]; omega)]
  · rw [Nat.min_eq_right (by omega), List.drop_length, List.drop_of_length_le (by omega), List.take_nil]
theorem at_nat {α : Type} {xs : List α} {x : Int} {j : Nat} {v : α} (hx : x = (j : Int)) (h : xs[j]? = some v) : atI xs x = some v := by
  subst hx
  exact atI_nat h
end Z

namespace Z
open PySem PySem.Spec L2 SX
/-! ### one list that may change -/
/-- the list at p alone may change; what stands in it is told by A -/
def listM (p : Addr) (A : List V → Prop) : Md := ⟨fun a => a = p, fun _ K => ∃ xs, K p = some (.lst xs) ∧ A xs, fun H K K' h ⟨xs, e, q⟩ => ⟨xs, by rw [h p rfl]; exact e, q⟩, fun _ _ _ _ h => h, fun H K a ⟨xs, e, _⟩ s => by rw [show a = p from s, e]; exact Option.some_ne_none _⟩
abbrev listX (p : Addr) (xs : List V) : Md := listM p (· = xs)
theorem J.cell {p : Addr} {xs : List V} {H K : Hp} (j : J (listX p xs) H K) : K p = some (.lst xs) := by
  obtain ⟨ys, e, q⟩ := j.r
  rw [← show ys = xs from q]
  exact e
section
variable {c : Ct} {X : Cx} {M0 M M1 M2 : Md} {H0 K0 H K : Hp} {st : L2.St} {D : Ends} {W : XK} {P P1 P2 : VK} {e a b : Expr} {pos p1 : Pos} {p : Addr} {xs : List V} {i : Int} {v : V}
end
/-! ### products -/
theorem mulW {i j : Int} {m k : Nat} (hi : i.natAbs < 2 ^ m) (hj : j.natAbs < 2 ^ k) (h : m + k < 1000000) : CMulW i j := by
  have f : ∀ {x m : Nat}, x < 2 ^ m → x.log2 ≤ m := fun {x m} hx => by
    by_cases z : x = 0
    · rw [z]
      simp
    · exact Nat.le_of_lt ((Nat.log2_lt z).mpr hx)
  unfold CMulW
  have := f hi
  have := f hj
  omega
end Z

namespace Z
open PySem PySem.Spec L2 SX
theorem OpL.imp {c : Ct} {M : Md} {H : Hp} {P P1 : VK} {x : V} {l u : Option Int} (h : OpL c M x l u H P) (k : ∀ v H', Same H H' → P v H' → P1 v H') : OpL c M x l u H P1 := .mk fun X hX K j Q q => h.run X hX K j Q fun v H' K' g p => q v H' K' g (k v H' g.b p)
/-! ### stores into names that a comprehension reads -/
section
variable {c : Ct} {X : Cx} {M0 M M1 M2 : Md} {H0 K0 H K : Hp} {st : L2.St} {D : Ends} {W : XK} {P : VK} {a b : Expr} {pos p1 : Pos} {x y : Str}
theorem sw_half {px py pt p2 : Pos} {kt k2 : Nat} {env : Env} (hb : env.blockKind = .function) (hx : env.kindOf x = some .local ∨ env.kindOf x = some .cell) (hy : env.kindOf y = some .local ∨ env.kindOf y = some .cell) (hn : env.kindOf x = some .cell ∨ env.kindOf y = some .cell)
    (hs : ([a, b].any fun | .Starred .. => true | _ => false) = false) : swappedStores [.Tuple [.Name x px, .Name y py] kt pt] (.Tuple [a, b] k2 p2) env = pure none := by
  have ne : ((some NameKind.cell == some NameKind.local) = true) = False := by decide
  unfold swappedStores
  simp only [hb, hs, Expr.pos, List.head?_cons, Option.map_some, Option.getD_some, List.length_cons, List.length_nil]
  simp only [List.any_cons, List.any_nil, Bool.or_false, Bool.or_eq_false_iff] at hs
  rcases hx with hx | hx <;> rcases hy with hy | hy
  · rw [hx, hy] at hn
    rcases hn with z | z <;> cases z
  · simp [hx, hy, List.filterMap_cons]
  · by_cases hl : py.line = px.line
    · simp [hx, hy, List.filterMap_cons, hl]
    · simp [hx, hy, List.filterMap_cons, hl]
  · simp [hx, hy, List.filterMap_cons]
theorem sw_lcCell {elt : Expr} {gs : List Comprehension} {scope : Scope} {py : Pos} {l : Nat} {env : Env} (hy : env.kindOf y = some .cell) : swapsWith (.ListComp elt gs scope pos) (some (.Name y py)) l env = pure false := by
  unfold swapsWith
  simp [hy]
  rw [show (NameKind.cell == NameKind.local) = false from rfl, Bool.and_false, Bool.false_and, Bool.false_and]
end
end Z

/-! Ya: walking lists and tuples, unpacking tuples, while an exception is handled. -/
namespace HotX
open PySem PySem.Spec PyProof.Rows L2 L2H
section
variable {prog : Program} {w : World} {A : Around} {E : Value → Shared → Prop} {s : Shared}
theorem hot_list_end {it l x1 : Addr} {i : Nat} {items} {Q : Option Value → Shared → Prop} (hot : HotAt A x1 s.heap) (hx1 : x1 ≠ it)
    (hit : s.heap.IsListIter it l i) (hl : s.heap.IsList l items) (hx : items[i]? = none)
    (hQ : ∀ h', Heap.ExtBut it s.heap h' → Q none { s with heap := h' }) : wpAny (model prog w) A (pyNext (.ref it)) Q E s := by
  obtain ⟨hh, o1, vs1, h1, d1, c1⟩ := hot
  obtain ⟨o, ho, hc, hd⟩ := id hit
  obtain ⟨ol, hol, _, nl, hdl⟩ := hl
  unfold pyNext
  refine wpAny_bind (wpAny_attempt (wpAny_callSpecial?_slot (name := Str.ofString "__next__") hit.typeIs slot_listiter_next
    (wpAny_call_entry slot_listiter_next hit.typeIs entry_listiter_next ?_ (args_listiter_next _))))
  show wpAny _ _ (field (.ref it) 0 >>= _) _ _ s
  refine wpAny_bind (wpAny_field ho hd (x := .ref l) rfl ?_)
  show wpAny _ _ (if (Value.ref l == Value.none) = true then _ else _) _ _ s
  rw [if_neg (show ¬ ((Value.ref l == Value.none) = true) from Bool.false_ne_true)]
  show wpAny _ _ (field (.ref it) 1 >>= _) _ _ s
  refine wpAny_bind (wpAny_field ho hd (x := .int i 0) rfl ?_)
  show wpAny _ _ (seqItems? (.ref l) >>= _) _ _ s
  refine wpAny_bind (wpAny_seqItems hol hdl ?_)
  simp only [Int.toNat_natCast, hx]
  refine wpAny_bind (wpAny_rule (wpAny_bind (wpAny_setField ho hd (by simp) ?_)))
  show wpAny _ _ (newExc (.type "StopIteration") [] >>= _) _ _ _
  refine wpAny_bind ?_
  simp only [newExc, newTuple]
  refine wpAny_bind (wpAny_newObj_type ?_ (by size_fits))
  refine wpAny_bind (m := firstArgMember _ _) (wpAny_of_eq (a := Value.none) (by first | rfl | (simp only [firstArgMember]; rfl)) ?_)
  refine wpAny_newObj_type ?_ (by size_fits)
  have k1 : ∀ {f : Obj → Obj}, (s.heap.update it f).get? x1 = some o1 := fun {f} => by rw [Heap.get?_update_other _ _ hx1.symm]; exact h1
  refine raiseNew_hot ⟨hh, o1, vs1, Heap.get?_push_of_some _ (Heap.get?_push_of_some _ k1), d1, c1⟩ (Nat.ne_of_lt (Heap.lt_size (Heap.get?_push_of_some _ k1))) (Heap.get?_push_size _ rfl) rfl (by first | (simp; done) | (simp; omega) | (simp only [Array.size_append]; simp; omega)) ?_
  refine wpAny_bind (wpAny_isInstance (T := "StopIteration") (b := true) ⟨_, Heap.get?_update_self _ (Heap.get?_push_size _ rfl) rfl, rfl⟩ isSubtype_stop ?_)
  refine wpAny_pure (hQ _ fun b o' hb e => ?_)
  have k2 : ∀ {f : Obj → Obj}, (s.heap.update it f).get? b = some o' := fun {f} => by rw [Heap.get?_update_other _ _ (Ne.symm hb)]; exact e
  rw [Heap.get?_update_other _ _ (Nat.ne_of_gt (Heap.lt_size (Heap.get?_push_of_some _ k2)))]
  exact Heap.get?_push_of_some _ (Heap.get?_push_of_some _ k2)
theorem hot_tuple_end {it t x1 : Addr} {i : Nat} {items} {Q : Option Value → Shared → Prop} (hot : HotAt A x1 s.heap) (hx1 : x1 ≠ it)
    (hit : IsTupIter s.heap it t i) (ht : IsTup s.heap t items) (hx : items[i]? = none)
    (hQ : ∀ h', Heap.ExtBut it s.heap h' → Q none { s with heap := h' }) : wpAny (model prog w) A (pyNext (.ref it)) Q E s := by
  obtain ⟨hh, o1, vs1, h1, d1, c1⟩ := hot
  obtain ⟨o, ho, hc, hd⟩ := id hit
  obtain ⟨ol, hol, _, nl, hdl⟩ := ht
  unfold pyNext
  refine wpAny_bind (wpAny_attempt (wpAny_callSpecial?_slot (name := Str.ofString "__next__") hit.typeIs slot_tupleiter_next
    (wpAny_call_entry slot_tupleiter_next hit.typeIs entry_tupleiter_next ?_ (args_tupleiter_next _))))
  show wpAny _ _ (field (.ref it) 0 >>= _) _ _ s
  refine wpAny_bind (wpAny_field ho hd (x := .ref t) rfl ?_)
  show wpAny _ _ (if (Value.ref t == Value.none) = true then _ else _) _ _ s
  rw [if_neg (show ¬ ((Value.ref t == Value.none) = true) from Bool.false_ne_true)]
  show wpAny _ _ (field (.ref it) 1 >>= _) _ _ s
  refine wpAny_bind (wpAny_field ho hd (x := .int i 0) rfl ?_)
  show wpAny _ _ (seqItems? (.ref t) >>= _) _ _ s
  refine wpAny_bind (wpAny_seqItems hol hdl ?_)
  simp only [Int.toNat_natCast, hx]
  refine wpAny_bind (wpAny_rule (wpAny_bind (wpAny_setField ho hd (by simp) ?_)))
  show wpAny _ _ (newExc (.type "StopIteration") [] >>= _) _ _ _
  refine wpAny_bind ?_
  simp only [newExc, newTuple]
  refine wpAny_bind (wpAny_newObj_type ?_ (by size_fits))
  refine wpAny_bind (m := firstArgMember _ _) (wpAny_of_eq (a := Value.none) (by first | rfl | (simp only [firstArgMember]; rfl)) ?_)
  refine wpAny_newObj_type ?_ (by size_fits)
  have k1 : ∀ {f : Obj → Obj}, (s.heap.update it f).get? x1 = some o1 := fun {f} => by rw [Heap.get?_update_other _ _ hx1.symm]; exact h1
  refine raiseNew_hot ⟨hh, o1, vs1, Heap.get?_push_of_some _ (Heap.get?_push_of_some _ k1), d1, c1⟩ (Nat.ne_of_lt (Heap.lt_size (Heap.get?_push_of_some _ k1))) (Heap.get?_push_size _ rfl) rfl (by first | (simp; done) | (simp; omega) | (simp only [Array.size_append]; simp; omega)) ?_
  refine wpAny_bind (wpAny_isInstance (T := "StopIteration") (b := true) ⟨_, Heap.get?_update_self _ (Heap.get?_push_size _ rfl) rfl, rfl⟩ isSubtype_stop ?_)
  refine wpAny_pure (hQ _ fun b o' hb e => ?_)
  have k2 : ∀ {f : Obj → Obj}, (s.heap.update it f).get? b = some o' := fun {f} => by rw [Heap.get?_update_other _ _ (Ne.symm hb)]; exact e
  rw [Heap.get?_update_other _ _ (Nat.ne_of_gt (Heap.lt_size (Heap.get?_push_of_some _ k2)))]
  exact Heap.get?_push_of_some _ (Heap.get?_push_of_some _ k2)
theorem hot_unpackItems {t x1 : Addr} {items : Array Value} {Q : List Value → Shared → Prop} (hot : HotAt A x1 s.heap) (ht : IsTup s.heap t items)
    (hQ : ∀ h', Heap.ExtBut s.heap.objs.size s.heap h' → Q items.toList { s with heap := h' }) : wpAny (model prog w) A (unpackItems (.ref t) items.size none) Q E s := by
  have hlt : t ≠ s.heap.objs.size := by obtain ⟨o, ho, _⟩ := ht; exact Nat.ne_of_lt (Heap.lt_size ho)
  obtain ⟨hh, o1, vs1, h1, d1, c1⟩ := hot
  have hx1 : x1 ≠ s.heap.objs.size := Nat.ne_of_lt (Heap.lt_size h1)
  unfold unpackItems
  refine wpAny_bind ?_
  · unfold notIterableAtAll
    refine wpAny_bind (wpAny_specialOf ht.typeIs slot_tuple_iter.lookup ?_)
    refine wpAny_pure ?_
    simp only [Bool.false_eq_true, if_false]
    refine wpAny_bind (wpAny_holding (iter_tuple ht ?_))
    refine wpAny_bind (wpAny_holding (draw_tuple hlt items.size 0 _ _ ⟨_, Heap.get?_push_size _ rfl, rfl, rfl⟩ (ht.push _) (by omega) fun h₁ hit₁ hs₁ => ?_))
    have hall : List.take items.size (List.drop 0 items.toList) = items.toList := by
      rw [List.drop_zero]; exact List.take_of_length_le (by simp)
    rw [hall]
    rw [if_neg (by simp)]
    have ht₁ : IsTup h₁ t items := (ht.push _).extBut hs₁.extBut hlt
    have hot₁ : HotAt A x1 h₁ := ⟨hh, o1, vs1, hs₁.extBut _ _ hx1 (Heap.get?_push_of_some _ h1), d1, c1⟩
    refine wpAny_bind (wpAny_holding (hot_tuple_end hot₁ hx1 hit₁ ht₁ (by simp) fun h₂ he₂ => ?_))
    simp only [Option.isSome_none, Bool.false_eq_true, if_false]
    refine wpAny_pure (hQ h₂ fun b o hb e => he₂ b o hb (hs₁.extBut b o hb (Heap.get?_push_of_some _ e)))
theorem hot_unpack {t x1 : Addr} {items : Array Value} {targets : List (Bool × (Value → Sem Unit))} {Q : Unit → Shared → Prop} (hot : HotAt A x1 s.heap) (ht : IsTup s.heap t items)
    (hn : targets.length = items.size) (hstar : targets.findIdx? (·.1) = none)
    (h : ∀ h', Heap.ExtBut s.heap.objs.size s.heap h' → wpAny (model prog w) A (assignInOrder (targets.map (·.2)) items.toList) Q E { s with heap := h' }) :
    wpAny (model prog w) A (unpack (.ref t) targets) Q E s := by
  unfold unpack
  rw [hn, hstar]
  exact wpAny_bind (wpAny_holding (hot_unpackItems hot ht h))
end
section
variable {X : Cx} {pos : Pos}
theorem pg_tupH {es : List Expr} {k : Nat} {t : TGs} {n : Nat} (hc : HotC X) (h : PGs X es t)
    (hn : (assignEach es X.env).length = n := by rfl) (hst : (assignEach es X.env).findIdx? (·.1) = none := by rfl) : PG X (.Tuple es k pos) (gTup X.K n t) := by
  refine ⟨fun pins s σ H v u Q I r hw => ?_⟩
  obtain ⟨a, xs, e1, hq, hl, hw⟩ := hw
  subst e1
  cases r
  obtain ⟨its, rv, ht, hz⟩ := I.tuple hq
  obtain ⟨x1, hot⟩ := hc.at I
  rw [assign_Tuple]
  refine wpAny_bind (wpAny_standAt (hot_unpack hot ht (by simp [hn, ← hl, rv.length]) hst fun h' hx => ?_))
  have I1 : Inv X pins σ H { s with heap := h' } := I.kept (t' := s.toks) fun b o e => hx b o (Nat.ne_of_lt (Heap.lt_size e)) e
  exact h.run pins _ σ H xs _ Q I1 (by simpa using rv) hw
theorem turn_listH {P : Program} {w : World} {K : PySem.W.Frag} {tg : Expr} (a it : Addr) : TurnH P w K tg (Itl K a) [it] it (fun i h => h.IsListIter it a i) where
  mem := (turn_list (P := P) (w := w) (K := K) (tg := tg) a it).mem
  obj := (turn_list (P := P) (w := w) (K := K) (tg := tg) a it).obj
  keep := (turn_list (P := P) (w := w) (K := K) (tg := tg) a it).keep
  item := by
    intro X hP hw hK hc i pins s σ H E I hf st hg
    subst hP hw hK
    obtain ⟨xs, x, hq, hx⟩ := hg
    obtain ⟨its, rv, p, hz⟩ := I.list hq
    obtain ⟨u, hu, ru⟩ := rv.get hx
    obtain ⟨f0, f1, f2, f3, f4, f5⟩ := hf it (by simp)
    refine wpAny_pyNext_list_item st p.isList (x := u) (by simpa using hu) fun h' st' sb => ?_
    have I1 : Inv X pins σ H { s with heap := h' } := I.turned (t' := s.toks) (fun b o hb e => (sb.2 b hb).trans e) f0 f1 f3 f4 f5
    obtain ⟨o, e, c, d⟩ := id st'
    exact ⟨u, rfl, go_of (s := { s with heap := h' }) e c d (by decide) ⟨x, H, I1, ru, ⟨rfl, fun ys hy => by rw [I.list_inj hy hq]; exact hx⟩, st', fun b hb => (hf b hb).1⟩⟩
  done := by
    intro X hP hw hK hc i pins s σ H E I hf st hg
    subst hP hw hK
    obtain ⟨xs, hq, hx⟩ := hg
    obtain ⟨its, rv, p, hz⟩ := I.list hq
    obtain ⟨f0, f1, f2, f3, f4, f5⟩ := hf it (by simp)
    have hl := rv.length
    obtain ⟨q, ⟨hh, v1, e1, c1⟩, hp⟩ := hc
    have z := (I.pin q (List.mem_append_left _ hp)).1
    exact hot_list_end ⟨hh, q.2, v1, z, e1, c1⟩ (f5 q (List.mem_append_left _ hp)) st p.isList (by simp; omega) fun h' eb => ⟨rfl, I.turned (t' := s.toks) (fun b o hb e => eb b o hb e) f0 f1 f3 f4 f5⟩
  self := fun _ _ _ _ _ st h => wpAny_pyIter_listiter st h
theorem pi_listH {tg l : Expr} {tl : L2.TE} (hl : PE X l tl) : PIH X tg l (iList X.K tl) := by
  refine ⟨fun pins s σ H R I h => ?_⟩
  refine thn (hl.run pins s σ H _ I h) fun v s1 ⟨x, H1, I1, r1, q1⟩ => ?_
  obtain ⟨a, e, ⟨xs, hq⟩, q⟩ := q1
  subst e
  cases r1
  obtain ⟨its, rv, p, hz⟩ := I1.list hq
  refine wpAny_pyIter_list p.isList ?_
  refine ⟨s1.heap.objs.size, [s1.heap.objs.size], _, _, H1, rfl, I1.kept (t' := s1.toks) fun b o e => Heap.get?_push_of_some _ e, turn_listH a _, ⟨_, Heap.get?_push_size _ rfl, rfl, rfl⟩, fun b hb => ?_, q⟩
  have e : b = s1.heap.objs.size := by simpa using hb
  subst e
  exact I1.fpOk (Nat.le_refl _) (I1.hok.fresh (Nat.le_refl _))
end
end HotX

/-! Yc: contexts, where nothing is handled (hp = none) or an exception that is known (hp = some p); the promises of defs. -/
namespace Y
open PySem PySem.Spec PyProof.Rows L2 L2H SX Z HotX
abbrev HP := Option (Addr × Obj)
structure Ct where
  P : Program
  w : World
  K : PySem.W.Frag
  mg : Str → Option Value
  base : Heap
  N : List Str
  sc : Scope
  k : Nat
  Wx : WX
  fa : Bool
  hp : HP
inductive Con : Ct → Cx → Prop
  | mk (X : Cx) (k : Nat) (Wx : WX) (fa : Bool) (hp : HP) (hrH : RoomH k X.A) (hcf : hp = none → X.calm = true ∧ Room k X.A) (hh : ∀ p, hp = some p → Hot1 X.A p ∧ p ∈ X.pn) (hpo : PassesOwn (model X.prog X.w) X.A X.env X.xe) (ht : L2N.Takes X Wx) (hf : fa = true → ∀ x, X.fn x = true) (hN : X.N.Nodup) (hG : X.A.guards = some [])
      (hst : fa = true → X.stack = X.env :: X.outer ∧ X.env.frame = some X.env.locals ∧ X.ex = []) :
    Con ⟨X.prog, X.w, X.K, X.mg, X.base, X.N, X.env.scope, k, Wx, fa, hp⟩ X
abbrev GlS (c : Ct) (x : Str) : Prop := c.sc.names.lookup x = some .globalImplicit
/-- nothing is handled -/
class Calm (c : Ct) : Prop where
  h : c.hp = none
instance calm1 {P : Program} {w : World} {K : PySem.W.Frag} {mg : Str → Option Value} {base : Heap} {N : List Str} {sc : Scope} {k : Nat} {Wx : WX} {fa : Bool} : Calm ⟨P, w, K, mg, base, N, sc, k, Wx, fa, none⟩ := ⟨rfl⟩
instance calm2 {c : Ct} [Calm c] {P : Program} {w : World} {K : PySem.W.Frag} {mg : Str → Option Value} {base : Heap} {N : List Str} {sc : Scope} {k : Nat} {Wx : WX} {fa : Bool} : Calm ⟨P, w, K, mg, base, N, sc, k, Wx, fa, c.hp⟩ := ⟨Calm.h (c := c)⟩
/-- a hot context knows its exception -/
theorem hotC_of {X : Cx} {p : Addr × Obj} (h : Hot1 X.A p ∧ p ∈ X.pn) : HotC X := ⟨p, h.1, h.2⟩

/-! ### blocks of comprehensions -/
abbrev Ct.blk (c : Ct) (scope : Scope) : Ct := ⟨c.P, c.w, c.K, c.mg, c.base, c.N, relS scope c.sc, c.k, fun _ _ _ _ => False, false, c.hp⟩
abbrev blkQ (X : Cx) (hp : HP) (s0 : Shared) (H0 : Hp) (scope : Scope) (cenv : Env) (fp : List Addr) : Cx := { X.blk s0 H0 scope cenv fp with pn := hp.toList }
theorem takesN0 {X : Cx} : L2N.Takes X (fun _ _ _ _ => False) := fun _ _ x => by
  obtain ⟨_, _, _, _, _, _, _, _, _, _, _, _, _, _, _, _, z⟩ := x
  exact z.elim
theorem con_blk {X : Cx} {k : Nat} {Wx : WX} {fa : Bool} {hp : HP} {scope : Scope} (hrH : RoomH k X.A) (hcf : hp = none → X.calm = true ∧ Room k X.A) (hh : ∀ p, hp = some p → Hot1 X.A p ∧ p ∈ X.pn) (hN : X.N.Nodup) (hU : X.A.guards = some []) (s0 : Shared) (H0 : Hp) (C : Addr) (cl : List (Str × Addr)) (fp : List Addr) :
    Con (Ct.blk ⟨X.prog, X.w, X.K, X.mg, X.base, X.N, X.env.scope, k, Wx, fa, hp⟩ scope) (blkQ X hp s0 H0 scope (compEnvC scope cl C X.env) fp) :=
  Con.mk (blkQ X hp s0 H0 scope (compEnvC scope cl C X.env) fp) k (fun _ _ _ _ => False) false hp hrH hcf (fun p e => ⟨(hh p e).1, by rw [e]; exact List.mem_singleton.mpr rfl⟩) PassesOwn.never takesN0 (fun z => nomatch z) hN hU (fun z => nomatch z)

/-! ### names -/
def IsN (c : Ct) (tg : Expr) (j : Nat) : Prop := ∃ x pos, tg = .Name x pos ∧ c.N[j]? = some x ∧ Loc c.sc x ∧ (c.fa = true ∨ c.sc.names.lookup x = some .local)
theorem isN_pg {c : Ct} {tg : Expr} {j : Nat} {X : Cx} (h : IsN c tg j) (hX : Con c X) : PG X tg (gName j) := by
  obtain ⟨x, pos, rfl, h1, h2, h3⟩ := h
  cases hX with
  | mk _ k' Wx fa hpp hrH hcf hh hp' ht hf hN hU hst =>
    refine pg_name hN h1 h2 ?_
    rcases h3 with h3 | h3
    · exact .inl (hf h3 x)
    · exact .inr h3
def StoreN (c : Ct) (x : Str) (i : Nat) : Prop := c.N[i]? = some x ∧ Loc c.sc x ∧ (c.fa = true ∨ c.sc.names.lookup x = some .local)
def IsNs (c : Ct) : List Expr → List Nat → Prop
  | [], [] => True
  | e :: es, j :: js => IsN c e j ∧ IsNs c es js
  | _, _ => False
theorem pgs_names {c : Ct} {X : Cx} (hX : Con c X) : ∀ {es : List Expr} {js : List Nat}, IsNs c es js → PGs X es (gNs js) ∧ (assignEach es X.env).length = js.length ∧ (assignEach es X.env).findIdx? (·.1) = none
  | [], [], _ => ⟨pgs_nil, rfl, rfl⟩
  | e :: es, j :: js, ⟨h1, h2⟩ => by
    obtain ⟨q1, q2, q3⟩ := pgs_names hX h2
    have g := isN_pg h1 hX
    obtain ⟨x, p, rfl, _⟩ := h1
    refine ⟨pgs_cons g q1, ?_, ?_⟩
    · show (assignEach es X.env).length + 1 = js.length + 1
      rw [q2]
    · show ((false, assign (.Name x p) X.env) :: assignEach es X.env).findIdx? (·.1) = none
      rw [List.findIdx?_cons, q3]
      rfl
/-- a tuple of names, whatever is handled -/
theorem pg_tupQ {X : Cx} {hp : HP} {es : List Expr} {k : Nat} {t : TGs} {n : Nat} {pos : Pos} (hcf : hp = none → X.calm = true) (hh : ∀ p, hp = some p → Hot1 X.A p ∧ p ∈ X.pn) (h : PGs X es t)
    (hn : (assignEach es X.env).length = n) (hst : (assignEach es X.env).findIdx? (·.1) = none) : PG X (.Tuple es k pos) (gTup X.K n t) := by
  cases hp with
  | none => exact pg_tup (hcf rfl) h hn hst
  | some p => exact pg_tupH (hotC_of (hh p rfl)) h hn hst

/-! ### the promise of a def -/
structure FnC (hp : HP) (P : Program) (w : World) (F : PySem.W.Frag) (mg : Str → Option Value) (base : Heap) (k : Nat) (f : Addr) (fd : FuncData) (ps : List Str) (sp : Sp) : Prop where
  len : ∀ vs K Q E, sp vs K Q E → vs.length = ps.length
  run : ∀ A : Around, RoomH k A → (hp = none → A.handled = none) → (∀ p, hp = some p → Hot1 A p) → A.guards = some [] → ∀ outer s K, (∀ p, hp = some p → PinOk outer K s p) → Env0 P w F mg base A outer s K → ∀ args us vs, Vals vs us → BindsTo s fd args (ps.zip us) → ∀ Q E, sp vs K Q E →
    codeAny (model P w) A (.call (.ref f) args) (CR (L2N.CX P w) outer P w K s Q E) s
abbrev FnG := FnC none
theorem room_of {k : Nat} {A : Around} (r : RoomH k A) (h : A.handled = none) : Room k A := ⟨h, r.dp, r.un⟩
/-- where nothing is handled -/
theorem FnC.calm {P : Program} {w : World} {F : PySem.W.Frag} {mg : Str → Option Value} {base : Heap} {k : Nat} {f : Addr} {fd : FuncData} {ps : List Str} {sp : Sp} (h : FnG P w F mg base k f fd ps sp) (A : Around) (r : Room k A) (g : A.guards = some []) (outer : List Env) (s : Shared) (K : Hp) (e : Env0 P w F mg base A outer s K) (args : Args) (us : List Value) (vs : List V) (v : Vals vs us) (b : BindsTo s fd args (ps.zip us)) (Q : VK) (E : XK) (q : sp vs K Q E) :
    codeAny (model P w) A (.call (.ref f) args) (CR (L2N.CX P w) outer P w K s Q E) s := h.run A (roomH_of r) (fun _ => r.hd) (fun _ z => nomatch z) g outer s K (fun _ z => nomatch z) e args us vs v b Q E q
/-- the context of a def's body -/
def cxC (hp : HP) (P : Program) (w : World) (K : PySem.W.Frag) (mg : Str → Option Value) (base : Heap) (N : List Str) (qual : Str) (scope : Scope) (f : Addr) (cd : Value) (A : Around) (outer : List Env) (s : Shared) (H : Hp) (E : XK) : Cx :=
  { cxOf (L2N.CX P w) P w K mg base N qual scope f cd A outer s H E with calm := hp.isNone, pn := hp.toList }
section
variable {P : Program} {w : World} {F : PySem.W.Frag} {mg : Str → Option Value} {base : Heap} {k : Nat} {f : Addr} {fd : FuncData} {ps N : List Str} {sp : Sp} {hp : HP}
theorem fnC_of {x qual : Str} {st : Stmt} (d : Fun F x qual st f fd) (S : FnScope N ps (defScope st)) (len : ∀ vs K Q E, sp vs K Q E → vs.length = ps.length)
    (hb : ∀ (cdv : Value) (A : Around) (outer : List Env) (s : Shared) (K : Hp) (vs : List V) (Q : VK) (E : XK), RoomH k (A.deeper (envOfC qual (defScope st) s.heap.objs.size f cdv)) → (hp = none → A.handled = none) → (∀ p, hp = some p → Hot1 A p) → A.guards = some [] → sp vs K Q E →
      ∃ t, PSs (cxC hp P w F mg base N qual (defScope st) f cdv A outer s K E) (defBody st) t ∧ t { nx := fun _ K' => Q .non K', rt := Q } (start N vs) K) : FnC hp P w F mg base (k + 1) f fd ps sp := by
  obtain ⟨oc, od, kV, doc, pm, an, cdv, ct, osl, rfl, lk, hcd⟩ := d.ex
  refine ⟨len, fun A hr hA hot hG outer s K hpin e0 args us vs r b Q E h => ?_⟩
  have inn : F.In s.heap := e0.mod.kin.keeps fun a o z => (e0.bs a o z).1
  have lim := e0.mod.nolimit.keeps (h' := s.heap) fun a o z => (e0.bs a o z).1
  refine codeAny_call_function hr.depth (inn _ _ lk) rfl S.co S.gen rfl (PySem.W.codeRec_of inn hcd) (b _ _ _ _ (wpAny_newFunctionEnv_cells S.kind (bind_kinds S) fun env he s1 y => ?_))
  subst he
  obtain ⟨t, ht, q⟩ := hb cdv A outer s K vs Q E (hr.deeper _) hA hot hG h
  have I0 : Inv (cxC hp P w F mg base N qual (defScope st) f cdv A outer s K E) [] (start N vs) K s1 := by
    cases hp with
    | none => exact inv_start (CX := L2N.CX P w) (E := E) S (hA rfl) e0 (len _ _ _ _ h) r y
    | some p => exact inv_startH (CX := L2N.CX P w) (E := E) S (hpin p rfl) e0 (len _ _ _ _ h) r y
  refine ⟨lim.keeps y.toInCall.keep, codeAny_func (wpAny_mono (ht.run [] s1 (start N vs) K _ I0 q) (fun fl s2 z => ?_) fun _ _ z => z)⟩
  match fl, z with
  | .ret u, ⟨v, _, K2, J2, r2, q2⟩ => exact ⟨v, K2, J2.os, J2.bare, J2.base, J2.hok, r2, q2⟩
  | .next, ⟨_, K2, J2, q2⟩ => exact ⟨.non, K2, J2.os, J2.bare, J2.base, J2.hok, rfl, q2⟩
  | .brk, ⟨_, _, _, q2⟩ => exact q2.elim
  | .cont, ⟨_, _, _, q2⟩ => exact q2.elim
end
section
variable {X : Cx} {W : WX} {hp : HP} {k : Nat} {f : Addr} {fd : FuncData} {ps : List Str} {sp : Sp}
theorem runC {pins : List (Addr × Obj)} {st : L2.St} {K : Hp} {s : Shared} {Q : VK} {us : List Value} {vs : List V}
    (F : FnC hp X.prog X.w X.K X.mg X.base k f fd ps sp) (hr : RoomH k X.A) (hA : hp = none → X.A.handled = none) (hh : ∀ p, hp = some p → Hot1 X.A p ∧ p ∈ X.pn) (hG : X.A.guards = some []) (tk : L2N.Takes X W) (bs : Binds X.K fd ps []) (I : Inv X pins st K s) (r : Vals vs us) (h : sp vs K Q (WE W st)) :
    wpAny (model X.prog X.w) X.A (call (.ref f) us) (EP X pins st Q) X.xe s := by
  have hl : (us ++ ([] : List Value)).length = ps.length := by
    rw [List.append_nil, ← r.length]
    exact F.len _ _ _ _ h
  have b := bs s us I.kIn hl
  rw [List.append_nil] at b
  refine wpAny_call (codeAny_mono (F.run X.A hr hA (fun p e => (hh p e).1) hG X.stack s K (fun p e => ?_) I.env0 ⟨us, []⟩ us vs r b Q _ h) fun res s2 z => ?_)
  · have P1 := I.pin p (List.mem_append_left _ (hh p e).2)
    exact ⟨P1.1, P1.2.1, fun hm => (List.mem_cons.mp (I.stkSub p.1 hm)).elim P1.2.2.1 P1.2.2.2.1, P1.2.2.2.2⟩
  match res, z with
  | .error e, z => exact L2N.passAt tk st pins K s e s2 I z
  | .ok (.ret u), z => exact I.after z
  | .ok .next, z => exact z.elim
  | .ok .brk, z => exact z.elim
  | .ok .cont, z => exact z.elim
theorem pe_callC {x : Str} {p pos : Pos} {e : Expr} {es : List Expr} {t : L2.TA}
    (F : FnC hp X.prog X.w X.K X.mg X.base k f fd ps sp) (hr : RoomH k X.A) (hA : hp = none → X.A.handled = none) (hh : ∀ p, hp = some p → Hot1 X.A p ∧ p ∈ X.pn) (hG : X.A.guards = some []) (gx : Gl X x) (hm : X.mg x = some (.ref f)) (kp : PySem.W.keepIn X.K (.ref f) = true) (bs : Binds X.K fd ps []) (tk : L2N.Takes X W) (ha : PA X (e :: es) t)
    (hdb : (x == ("__debug__" : Str)) = false) (he : starEach (e :: es) X.env = (false, eval e X.env) :: starEach es X.env) (hpl : (backTo pos (starEach es X.env)).any (·.1) = false) : PE X (.Call (.Name x p) (e :: es) [] pos) (tCallS sp (WE W) t) := by
  refine ⟨fun pins s st K Q I h => wpAny_Call_Name_kw (ld_glob I gx hm ?_ hdb)⟩
  refine PySem.W.callWith_K (h₀ := X.base) I.ok.mod.kin kp (thn (ha.run pos pins s st K _ I h) fun us s2 z => ?_) he hpl
  obtain ⟨vs, K2, I2, r2, q2⟩ := z
  exact ⟨I2.kIn, runC F hr hA hh hG tk bs I2 r2 q2⟩
end

/-! ### a list comprehension where an exception is handled -/
section
variable {X : Cx}
theorem block_startH {pins : List (Addr × Obj)} {σ : L2.St} {H : Hp} {s : Shared} {p : Addr × Obj} {scope : Scope} {own : List (Str × Nat)} {fp : List Addr} (I : Inv X pins σ H s) (hp : p ∈ X.pn) (ok : BlkOk X.N X.env.scope scope own) (hN : X.N.Nodup) (hfp : ∀ b ∈ fp, FpOk X pins H b ∧ b < s.heap.objs.size) :
    Inv (blkQ X (some p) s H scope (compEnvC scope (cellsFrom (s.heap.objs.size + 1) scope.names (cloFrom X.env.cells scope.names [])) s.heap.objs.size X.env) fp) [] (wipe σ (own.map (·.2))) H { s with heap := pushCells (s.heap.push { cls := .type "dict", data := .dict #[] }) scope.names } := by
  have J := block_start I ok hN hfp
  have P1 := I.pin p (List.mem_append_left _ hp)
  refine ⟨⟨J.ok.mod, J.ok.kind, J.ok.glob, J.ok.blt, J.ok.above, J.ok.inj, J.ok.has, J.ok.cab, J.ok.hd, J.ok.frames, J.ok.stk, J.ok.exf, J.ok.bs, J.ok.bsz, J.ok.noex, J.ok.exfs, J.ok.funs, J.ok.frf⟩, J.os, J.bare, J.base, J.loc, J.cell, J.free, J.freeC, fun q hq => ?_, J.hok, J.len⟩
  have eq : q = p := by simpa using (show q ∈ [p] ++ ([] : List (Addr × Obj)) from hq)
  rw [eq]
  exact ⟨pushCells_keeps _ _ _ _ (Heap.get?_push_of_some _ P1.1), P1.2.1, Nat.ne_of_lt (Heap.lt_size P1.1), fun hm => (List.mem_cons.mp (I.stkSub p.1 hm)).elim P1.2.2.1 P1.2.2.2.1, P1.2.2.2.2⟩
/-- the new list D; what is walked stands in the cells fp -/
theorem lc_hot {p : Addr × Obj} {pins : List (Addr × Obj)} {s : Shared} {σ : L2.St} {H : Hp} {Q : VK} {use : Option (Value → Sem Unit)} {Qf : Value → Shared → Prop} {pos' : Pos} {elt tg iter : Expr} {ifs : List Expr} {scope : Scope} {own : List (Str × Nat)} {pos : Pos} {wi : L2.TI} {g : L2.TG} {tt : L2.TT} {te : L2.TE} (hot : Hot1 X.A p ∧ p ∈ X.pn) (hN : X.N.Nodup) (hl : PIH X tg iter wi) (ok : BlkOk X.N X.env.scope scope own)
    (hg : ∀ (s : Shared) (H : Hp) (C : Addr) (cl : List (Str × Addr)) (fp : List Addr), PG (blkQ X (some p) s H scope (compEnvC scope cl C X.env) fp) tg g) (ht : ∀ (s : Shared) (H : Hp) (C : Addr) (cl : List (Str × Addr)) (fp : List Addr), PTs (blkQ X (some p) s H scope (compEnvC scope cl C X.env) fp) ifs tt)
    (he : ∀ (s : Shared) (H : Hp) (C : Addr) (cl : List (Str × Addr)) (fp : List Addr), PE (blkQ X (some p) s H scope (compEnvC scope cl C X.env) fp) elt te) (hs : ∀ x, foldedSetIterable iter X.env x = pure x) (I : Inv X pins σ H s) (h : tLc wi g tt te (own.map (·.2)) σ H Q)
    (hRR : ∀ D C s' m H', Inv X pins σ H' s' → Q (.ref D) H' → s'.heap.Ns C m → FpOk X pins H' C → compPost (model X.prog X.w) X.A X.xe use Qf (.ref D) C (.ok .next) s') :
    wpAny (model X.prog X.w) X.A (comprehension (.ListComp elt [⟨tg, iter, ifs, 0⟩] scope pos) scope X.env pos' (newList []) false (eval iter X.env) use) Qf X.xe s := by
  have cl : ∀ y ∈ scope.names, y.2 = .free → ∃ c, X.env.cells.lookup y.1 = some c := fun y hy e => (ok.free y hy e).elim (fun k => I.ok.has _ (.inl k)) fun k => I.ok.has _ (.inr k)
  refine wpAny_comprehension_free (use := use) rfl hs (closure_ok cl) ok.kind (fun y hy e => by rw [ok.uniq y hy, e]) (thn (hl.run pins s σ H _ I h) fun v s1 hv => thn hv fun itv s2 ⟨it, fp, tn, J, H1, eit, I2, T, t2, f2, q⟩ => ?_)
  subst eit
  refine wpAny_newObj_type (newEnv_comp ?_) (by show 0 ≤ sizeLine; decide)
  have lt2 : ∀ b ∈ fp, b < s2.heap.objs.size := fun b hb => let ⟨o, e, _⟩ := T.obj 0 s2.heap t2 b hb; Heap.lt_size e
  -- the new list
  generalize hD : s2.heap.objs.size = D
  have nD : H1 D = none := I2.hok.fresh (Nat.le_of_eq hD)
  obtain ⟨W, ⟨m0, w0⟩, turn⟩ := q D nD
  generalize hs3 : ({ s2 with heap := s2.heap.push { cls := .type "list", data := .seq ([] : List Value).toArray } } : Shared) = s3
  have e3 : s3.heap = s2.heap.push { cls := .type "list", data := .seq ([] : List Value).toArray } := by rw [← hs3]
  have I3 : Inv X pins σ (upd H1 D (.lst [])) s3 := by
    rw [← hs3]
    refine I2.laid (t' := s2.toks) (fun b o e => Heap.get?_push_of_some _ e) (Nat.le_of_eq hD) ⟨Nat.zero_le _, [], 0, .nil, ?_⟩
    rw [← hD]
    exact Heap.get?_push_size _ rfl
  have n3 : ∀ b ∈ fp, (upd H1 D (.lst [])) b = none := fun b hb => by
    have iD : b ≠ D := by rw [← hD]; exact Nat.ne_of_lt (lt2 b hb)
    rw [upd_ne iD]
    exact (f2 b hb).1
  have t3 : tn 0 s3.heap := T.keep 0 _ _ t2 fun b hb o e => by rw [e3]; exact Heap.get?_push_of_some _ e
  have fr : ∀ b ∈ fp, FpOk X pins (upd H1 D (.lst [])) b := fun b hb => ⟨n3 b hb, (f2 b hb).2⟩
  have lt3 : ∀ b ∈ fp, b < s3.heap.objs.size := fun b hb => by rw [e3, Heap.size_push]; exact Nat.lt_succ_of_lt (lt2 b hb)
  have I4 := block_startH I3 hot.2 ok hN (fp := fp) fun b hb => ⟨fr b hb, lt3 b hb⟩
  have pg := hg s3 (upd H1 D (.lst [])) s3.heap.objs.size (cellsFrom (s3.heap.objs.size + 1) scope.names (cloFrom X.env.cells scope.names [])) fp
  have pt := ht s3 (upd H1 D (.lst [])) s3.heap.objs.size (cellsFrom (s3.heap.objs.size + 1) scope.names (cloFrom X.env.cells scope.names [])) fp
  have pe := he s3 (upd H1 D (.lst [])) s3.heap.objs.size (cellsFrom (s3.heap.objs.size + 1) scope.names (cloFrom X.env.cells scope.names [])) fp
  show codeAny _ _ (.compStart (.ListComp elt [⟨tg, iter, ifs, 0⟩] scope pos) 0 (.ref it) (.ref D) (compEnvC scope (cellsFrom (s3.heap.objs.size + 1) scope.names (cloFrom X.env.cells scope.names [])) s3.heap.objs.size X.env)) (compPost (model X.prog X.w) X.A X.xe use Qf (.ref D) s3.heap.objs.size) { s3 with heap := pushCells (s3.heap.push { cls := .type "dict", data := .dict #[] }) scope.names }
  generalize hce : compEnvC scope (cellsFrom (s3.heap.objs.size + 1) scope.names (cloFrom X.env.cells scope.names [])) s3.heap.objs.size X.env = ce at I4 pg pt pe ⊢
  have cL : ce.locals = s3.heap.objs.size := by subst hce; rfl
  generalize hH3 : upd H1 D (.lst []) = H3 at I3 I4 pg pt pe w0 n3 fr
  generalize hs4 : ({ s3 with heap := pushCells (s3.heap.push { cls := .type "dict", data := .dict #[] }) scope.names } : Shared) = s4 at I4 ⊢
  have t4 : tn 0 s4.heap := T.keep 0 _ _ t3 fun b hb o e => by rw [← hs4]; exact pushCells_keeps _ _ _ _ (Heap.get?_push_of_some _ e)
  have hotB : HotC (blkQ X (some p) s3 H3 scope ce fp) := ⟨p, hot.1, List.mem_singleton.mpr rfl⟩
  have fpB : ∀ {σ' : L2.St} {H' : Hp} {s' : Shared}, Inv (blkQ X (some p) s3 H3 scope ce fp) [] σ' H' s' → (∀ b ∈ fp, H' b = none) → ∀ b ∈ fp, FpOk (blkQ X (some p) s3 H3 scope ce fp) [] H' b := fun {σ' H' s'} J n b hb => by
    have m1 : b ∈ (blkQ X (some p) s3 H3 scope ce fp).ex := hb
    refine ⟨n b hb, (J.ok.exf b m1).1, J.ok.exfs b m1, .inl m1, fun x c e => (J.ok.exf b m1).2 x c e, fun u hu => ?_⟩
    have : u = p := by simpa using (show u ∈ [p] ++ ([] : List (Addr × Obj)) from hu)
    rw [this]
    exact (fr b hb).2.2.2.2.2 p (List.mem_append_left _ hot.2)
  have loop : codeAny (model X.prog X.w) X.A (.compLoop (.ListComp elt [⟨tg, iter, ifs, 0⟩] scope pos) 0 (.ref it) (.ref D) ce) (compPost (model X.prog X.w) X.A X.xe use Qf (.ref D) s3.heap.objs.size) s4 := by
    refine compLoop_any (fun n s' => ∃ i H', Inv (blkQ X (some p) s3 H3 scope ce fp) [] (wipe σ (own.map (·.2))) H' s' ∧ tn i s'.heap ∧ (∀ b ∈ fp, H' b = none) ∧ W i n H') ?_ m0 ⟨0, H3, I4, t4, n3, w0⟩
    rintro n s5 ⟨i, H5, I5, t5, n5, w5⟩
    rcases turn i n H5 w5 with ⟨stop, done⟩ | ⟨go, Nx, less, step⟩
    · have td := T.done (blkQ X (some p) s3 H3 scope ce fp) rfl rfl rfl hotB i [] s5 _ H5 (fun _ _ => False) I5 (fpB I5 n5) t5 stop
      refine thnF td fun r s6 ⟨hr, I6⟩ => ?_
      subst hr
      have I7 : Inv X pins σ H5 s6 := I3.call' (ch := fp) I6.os I6.base I6.hok I6.bare fun b hb => ⟨(fr b hb).2.2.2.1, (fr b hb).2.1, (fr b hb).2.2.2.2.1, (fr b hb).2.2.2.2.2⟩
      have nC : H5 s3.heap.objs.size = none := by
        have z : H5 ce.locals = none := I6.free
        rwa [cL] at z
      obtain ⟨m, hn, _⟩ := I6.loc
      have hn : s6.heap.Ns ce.locals m := hn
      rw [cL] at hn
      exact hRR D s3.heap.objs.size s6 m H5 I7 done hn (I3.fpOk (H' := H5) (Nat.le_refl _) nC)
    · have ti := T.item (blkQ X (some p) s3 H3 scope ce fp) rfl rfl rfl hotB i [] s5 _ H5 (fun _ _ => False) I5 (fpB I5 n5) t5 go
      refine thnF ti fun r s6 ⟨u, hr, h6⟩ => ?_
      subst hr
      refine thnF h6 fun _ s7 ⟨x, H7, I7, r7, y7, t7, n7⟩ => ?_
      have I8 := I7.pinned (fpB I7 n7) (T.obj (i + 1) s7.heap t7)
      have fin : ∀ {s' : Shared} {σ8 : L2.St} {H' : Hp}, wipe σ8 (own.map (·.2)) = wipe σ (own.map (·.2)) → Inv (blkQ X (some p) s3 H3 scope ce fp) ([] ++ pinsAt fp s7.heap) σ8 H' s' → Nx H' → ∃ m, m < n ∧ ∃ i H', Inv (blkQ X (some p) s3 H3 scope ce fp) [] (wipe σ (own.map (·.2))) H' s' ∧ tn i s'.heap ∧ (∀ b ∈ fp, H' b = none) ∧ W i m H' := fun {s' σ8 H'} hw J nx => by
        obtain ⟨m', hm, w'⟩ := less H' nx
        have z : ∀ b ∈ fp, ∀ o, s7.heap.get? b = some o → s'.heap.get? b = some o ∧ H' b = none := fun b hb o e => by
          have z := J.pin (b, o) (List.mem_append_right _ (List.mem_append_right _ (mem_pinsAt (fp := fp) hb e)))
          exact ⟨z.1, z.2.1⟩
        have hl : (wipe σ (own.map (·.2))).length = σ8.length := by rw [← hw, wipe_length]
        refine ⟨m', hm, i + 1, H', (J.unpinned (pins := [])).weak hl (fun j v e => ?_), T.keep (i + 1) _ _ t7 fun b hb o e => (z b hb o e).1, fun b hb => ?_, w'⟩
        · rw [← hw] at e
          exact (wipe_some e).1
        · obtain ⟨o, e, _⟩ := T.obj (i + 1) s7.heap t7 b hb
          exact (z b hb o e).2
      refine thnF (pg.run _ s7 _ H7 x u _ I8 r7 (step x H7 y7)) fun _ s8 ⟨σ8, H8, I9, hw8, q8⟩ => ?_
      refine thnF (pt.run _ s8 σ8 H8 _ I9 q8) fun b s9 ⟨H9, I10, q9⟩ => ?_
      cases b with
      | false =>
        simp only [Bool.false_eq_true, if_false] at q9 ⊢
        exact fin hw8 I10 q9
      | true =>
        simp only [if_true] at q9 ⊢
        refine thnF (pe.run _ s9 σ8 H9 _ I10 q9) fun z s10 ⟨yv, H10, I11, r10, acc, hD10, hz10, nx⟩ => ?_
        exact app_ok (X := blkQ X (some p) s3 H3 scope ce fp) I11 hD10 hz10 r10 fun s11 I12 => fin hw8 I12 nx
  exact codeAny_compStart_list loop (T.self _ 0 _ _ _ t4 loop)
theorem pe_lcHot {p : Addr × Obj} {elt tg iter : Expr} {ifs : List Expr} {scope : Scope} {own : List (Str × Nat)} {pos : Pos} {wi : L2.TI} {g : L2.TG} {tt : L2.TT} {te : L2.TE} (hot : Hot1 X.A p ∧ p ∈ X.pn) (hN : X.N.Nodup) (hl : PIH X tg iter wi) (ok : BlkOk X.N X.env.scope scope own)
    (hg : ∀ (s : Shared) (H : Hp) (C : Addr) (cl : List (Str × Addr)) (fp : List Addr), PG (blkQ X (some p) s H scope (compEnvC scope cl C X.env) fp) tg g) (ht : ∀ (s : Shared) (H : Hp) (C : Addr) (cl : List (Str × Addr)) (fp : List Addr), PTs (blkQ X (some p) s H scope (compEnvC scope cl C X.env) fp) ifs tt)
    (he : ∀ (s : Shared) (H : Hp) (C : Addr) (cl : List (Str × Addr)) (fp : List Addr), PE (blkQ X (some p) s H scope (compEnvC scope cl C X.env) fp) elt te) (hs : ∀ x, foldedSetIterable iter X.env x = pure x) : PE X (.ListComp elt [⟨tg, iter, ifs, 0⟩] scope pos) (tLc wi g tt te (own.map (·.2))) := ⟨fun pins s σ H Q I h => by
  rw [eval_ListComp]
  refine lc_hot hot hN hl ok hg ht he hs I h fun D C s' m H' I' q hn f => ⟨m, hn, fun h'' sb => ?_⟩
  obtain ⟨f0, f1, f2, f3, f4, f5⟩ := f
  exact ⟨.ref D, H', I'.turned (t' := s'.toks) (fun b o hb e => (sb.2 b hb).trans e) f0 f1 f3 f4 f5, rfl, q⟩⟩
/-- name = [..] on one line -/
theorem ps_setLcHot {p : Addr × Obj} {i : Nat} {y : Str} {py : Pos} {elt tg iter : Expr} {ifs : List Expr} {scope : Scope} {own : List (Str × Nat)} {pos spos : Pos} {wi : L2.TI} {g : L2.TG} {tt : L2.TT} {te : L2.TE} (hot : Hot1 X.A p ∧ p ∈ X.pn) (hN : X.N.Nodup) (hy : X.N[i]? = some y) (hyl : X.env.scope.names.lookup y = some .local)
    (hsw : swapsWith (.ListComp elt [⟨tg, iter, ifs, 0⟩] scope pos) (some (.Name y py)) spos.line X.env = pure true) (hl : PIH X tg iter wi) (ok : BlkOk X.N X.env.scope scope own)
    (hg : ∀ (s : Shared) (H : Hp) (C : Addr) (cl : List (Str × Addr)) (fp : List Addr), PG (blkQ X (some p) s H scope (compEnvC scope cl C X.env) fp) tg g) (ht : ∀ (s : Shared) (H : Hp) (C : Addr) (cl : List (Str × Addr)) (fp : List Addr), PTs (blkQ X (some p) s H scope (compEnvC scope cl C X.env) fp) ifs tt)
    (he : ∀ (s : Shared) (H : Hp) (C : Addr) (cl : List (Str × Addr)) (fp : List Addr), PE (blkQ X (some p) s H scope (compEnvC scope cl C X.env) fp) elt te) (hs : ∀ x, foldedSetIterable iter X.env x = pure x) : PS X (.Assign [.Name y py] (.ListComp elt [⟨tg, iter, ifs, 0⟩] scope pos) spos) (tAsg (tLc wi g tt te (own.map (·.2))) (gName i)) := ⟨fun pins s σ H D I h => by
  rw [exec_Assign_Name_used _ _ _ _ hsw]
  refine wpAny_bind (wpAny_standAt (wpAny_bind ?_))
  have h : tLc wi g tt te (own.map (·.2)) σ H (fun x H1 => gName i x σ H1 D.nx) := h
  refine wpAny_bind (thn (lc_hot (use := some (assign (.Name y py) X.env)) (Qf := fun _ s' => SP X pins D .next s') hot hN hl ok hg ht he hs I h fun L C s' m H' I' q hn f => ?_) fun _ s' hq => wpAny_pure (wpAny_pure hq))
  obtain ⟨f0, f1, f2, f3, f4, f5⟩ := f
  show wpAny _ _ (assign (.Name y py) X.env (.ref L)) _ _ _
  refine wpAny_assign_Name (store_ok2 (v := V.ref L) I' hN hy (.inl hyl) rfl (fun s2 I2 ⟨a, sb, ha⟩ => ⟨m, hn.sameBut sb ?_, fun h3 sb3 => ?_⟩) (.inr hyl))
  · rcases ha with z | z
    · rw [z]; exact f1
    · exact fun e => f4 y a z e.symm
  · exact ⟨_, H', I2.turned (t' := s2.toks) (fun b o hb e => (sb3.2 b hb).trans e) f0 f1 f3 f4 f5, q⟩⟩
end
theorem hunits {k : Nat} {A : Around} (r : RoomH k A) : A.units + 64 < cLine := by have := r.un; omega
/-! ### readings over the blocks -/
def bEQ (X : Cx) (hp : HP) (scope : Scope) (e : Expr) : L2.TE := fun st K Q => ∀ s0 H0 C cl fp, cE (blkQ X hp s0 H0 scope (compEnvC scope cl C X.env) fp) e st K Q
def bTQ (X : Cx) (hp : HP) (scope : Scope) (ifs : List Expr) : L2.TT := fun st K Q => ∀ s0 H0 C cl fp, cTs (blkQ X hp s0 H0 scope (compEnvC scope cl C X.env) fp) ifs st K Q
theorem bEQ_pe {X : Cx} {hp : HP} {scope : Scope} {e : Expr} (s0 : Shared) (H0 : Hp) (C : Addr) (cl : List (Str × Addr)) (fp : List Addr) : PE (blkQ X hp s0 H0 scope (compEnvC scope cl C X.env) fp) e (bEQ X hp scope e) := ⟨fun pins s _ _ _ I h => h s0 H0 C cl fp pins s I⟩
theorem bTQ_pts {X : Cx} {hp : HP} {scope : Scope} {ifs : List Expr} (s0 : Shared) (H0 : Hp) (C : Addr) (cl : List (Str × Addr)) (fp : List Addr) : PTs (blkQ X hp s0 H0 scope (compEnvC scope cl C X.env) fp) ifs (bTQ X hp scope ifs) := ⟨fun pins s _ _ _ I h => h s0 H0 C cl fp pins s I⟩
theorem bEQ_pe0 {X : Cx} {scope : Scope} {e : Expr} (s0 : Shared) (H0 : Hp) (C : Addr) (cl : List (Str × Addr)) (fp : List Addr) : PE (X.blk s0 H0 scope (compEnvC scope cl C X.env) fp) e (bEQ X none scope e) := bEQ_pe (X := X) (hp := none) s0 H0 C cl fp
theorem bTQ_pts0 {X : Cx} {scope : Scope} {ifs : List Expr} (s0 : Shared) (H0 : Hp) (C : Addr) (cl : List (Str × Addr)) (fp : List Addr) : PTs (X.blk s0 H0 scope (compEnvC scope cl C X.env) fp) ifs (bTQ X none scope ifs) := bTQ_pts (X := X) (hp := none) s0 H0 C cl fp
end Y

/-! ### walking dicts while an exception is handled -/
namespace HotX
open PySem PySem.Spec PyProof.Rows L2 L2H
section
variable {prog : Program} {w : World} {A : Around} {E : Value → Shared → Prop} {s : Shared}
end
section
variable {P : Program} {w : World} {K : PySem.W.Frag} {tg : Expr} {d : Addr} {o : Obj} {es : Array DictEntry} {ep : Nat}
end
end HotX
namespace HotX
open PySem PySem.Spec PyProof.Rows L2 L2H
section
variable {X : Cx} {tg e : Expr} {apos cpos : Pos} {td : L2.TE}
end
end HotX
namespace HotX
open PySem PySem.Spec PyProof.Rows L2 L2H
section
variable {X : Cx} {pos : Pos}
end
end HotX
namespace Y
open PySem PySem.Spec PyProof.Rows L2 L2H SX Z HotX
section
variable {X : Cx}
end
end Y

/-! Yhs: a dict's keys are collected, whatever is handled. -/
namespace HotX
open PySem PySem.Spec PyProof.Rows L2 L2H PySem.W
/-- what is handled is known -/
def HandK (A : Around) (h : Heap) : Prop := A.handled = none ∨ ∃ x1, HotAt A x1 h
theorem HandK.keep {A : Around} {h h' : Heap} (x : HandK A h) (k : ∀ b o, h.get? b = some o → h'.get? b = some o) : HandK A h' := x.imp id fun ⟨x1, hh, o1, vs1, h1, r⟩ => ⟨x1, hh, o1, vs1, k _ _ h1, r⟩
section
variable {prog : Program} {w : World} {Kt : Type} [DecidableEq Kt] {knd : KeyKind prog w Kt} {A : Around} {E : Value → Shared → Prop} {s : Shared} {x1 d : Addr} {o1 : Obj} {vs1 : Array Value} {kvs : List (Kt × Value)} {ep : Nat}
end
end HotX
namespace Y
end Y

/-! Yhl: a list comprehension of two clauses while an exception is handled (the calm proof, turned). -/
namespace Y
open PySem PySem.Spec PyProof.Rows L2 L2H SX Z HotX
section
variable {X : Cx}
end
end Y

/-! Y0: values as trees, mutable objects as cells; judgements over trees. -/
namespace Y
open PySem PySem.Spec L2 SX Z

/-! ### trees -/
abbrev DK := Sum Int (List Nat)
def keyD : DK → Key
  | .inl i => .inl i
  | .inr s => .inr (S s)
inductive DT where
  | non | bl (b : Bool) | int (i : Int) | str (s : List Nat)
  | lst (xs : List DT) | seq (xs : List DT) | tup (xs : List DT) | dct (kvs : List (DK × DT)) | obj (C : Addr) (fs : List (Str × DT))
  | ref (p : Addr) | ty (n : String) | exc (C : Addr) (fs : List (Str × DT))
  | hot (a : Addr) (d : Option Addr) (fs : List (Str × DT))
def dk : DK → DT
  | .inl i => .int i
  | .inr s => .str s
/-- the codes of a written text -/
def sOf (x : Str) : List Nat := x.cps.toList
theorem S_sOf (x : Str) : S (sOf x) = x := S_tl x
section
variable (F : PySem.W.Frag) (H : Hp)
mutual
inductive Rep : V → DT → Prop
  | non : Rep .non .non
  | bl (b : Bool) : Rep (.bl b) (.bl b)
  | int (i : Int) : Rep (.int i) (.int i)
  | str (s : List Nat) : Rep (.str (S s)) (.str s)
  | lst {a : Addr} {vs : List V} {ds : List DT} : H a = some (.lst vs) → RepA vs ds → Rep (.ref a) (.lst ds)
  | seq {a : Addr} {vs : List V} {ds : List DT} : SqL F H a vs → RepA vs ds → Rep (.ref a) (.seq ds)
  | tup {a : Addr} {vs : List V} {ds : List DT} : SqT F H a vs → RepA vs ds → Rep (.ref a) (.tup ds)
  | dct {a : Addr} {ob : Obj} {kvs : List (Key × V)} {ds : List (DK × DT)} : H a = some (.frz ob (.dK kvs)) → RepK kvs ds → Rep (.ref a) (.dct ds)
  | obj {a C dx : Addr} {fs : List (Str × V)} {ds : List (Str × DT)} : H a = some (.ins C dx fs) → H dx = some (.own a) → RepF fs ds → Rep (.ref a) (.obj C ds)
  | ref (a : Addr) : Rep (.ref a) (.ref a)
  | ty (n : String) : Rep (.ty n) (.ty n)
  | exc0 {a C : Addr} : H a = some (ExO (.ref C) a) → Rep (.ref a) (.exc C [])
  | exc1 {a C dx : Addr} {fs : List (Str × V)} {ds : List (Str × DT)} : H a = some (exo a C (some dx)) → H dx = some (exd dx fs) → RepF fs ds → Rep (.ref a) (.exc C ds)
  | hot0 (a : Addr) : Rep (.ref a) (.hot a none [])
  | hot1 {a dx : Addr} {fs : List (Str × V)} {ds : List (Str × DT)} : H dx = some (.xd fs) → RepF fs ds → Rep (.ref a) (.hot a (some dx) ds)
inductive RepA : List V → List DT → Prop
  | nil : RepA [] []
  | cons {v : V} {vs : List V} {d : DT} {ds : List DT} : Rep v d → RepA vs ds → RepA (v :: vs) (d :: ds)
inductive RepK : List (Key × V) → List (DK × DT) → Prop
  | nil : RepK [] []
  | cons {k : DK} {v : V} {vs : List (Key × V)} {d : DT} {ds : List (DK × DT)} : Rep v d → RepK vs ds → RepK ((keyD k, v) :: vs) ((k, d) :: ds)
inductive RepF : List (Str × V) → List (Str × DT) → Prop
  | nil : RepF [] []
  | cons {k : Str} {v : V} {vs : List (Str × V)} {d : DT} {ds : List (Str × DT)} : Rep v d → RepF vs ds → RepF ((k, v) :: vs) ((k, d) :: ds)
end
end
section
variable {F : PySem.W.Frag} {H H' K : Hp}
mutual
theorem Rep.same (s : Same H H') : ∀ {v : V} {d : DT}, Rep F H v d → Rep F H' v d
  | _, _, .non => .non
  | _, _, .bl b => .bl b
  | _, _, .int i => .int i
  | _, _, .str z => .str z
  | _, _, .lst h r => .lst (s _ _ h) (RepA.same s r)
  | _, _, .seq h r => .seq (same_sql s h) (RepA.same s r)
  | _, _, .tup h r => .tup (same_sqt s h) (RepA.same s r)
  | _, _, .dct h r => .dct (s _ _ h) (RepK.same s r)
  | _, _, .obj h h2 r => .obj (s _ _ h) (s _ _ h2) (RepF.same s r)
  | _, _, .ref a => .ref a
  | _, _, .ty n => .ty n
  | _, _, .exc0 h => .exc0 (s _ _ h)
  | _, _, .exc1 h h2 r => .exc1 (s _ _ h) (s _ _ h2) (RepF.same s r)
  | _, _, .hot0 a => .hot0 a
  | _, _, .hot1 h r => .hot1 (s _ _ h) (RepF.same s r)
theorem RepA.same (s : Same H H') : ∀ {v : List V} {d : List DT}, RepA F H v d → RepA F H' v d
  | _, _, .nil => .nil
  | _, _, .cons h r => .cons (Rep.same s h) (RepA.same s r)
theorem RepK.same (s : Same H H') : ∀ {v : List (Key × V)} {d : List (DK × DT)}, RepK F H v d → RepK F H' v d
  | _, _, .nil => .nil
  | _, _, .cons h r => .cons (Rep.same s h) (RepK.same s r)
theorem RepF.same (s : Same H H') : ∀ {v : List (Str × V)} {d : List (Str × DT)}, RepF F H v d → RepF F H' v d
  | _, _, .nil => .nil
  | _, _, .cons h r => .cons (Rep.same s h) (RepF.same s r)
end
theorem RepA.length : ∀ {v : List V} {d : List DT}, RepA F H v d → v.length = d.length
  | _, _, .nil => rfl
  | _, _, .cons _ r => congrArg (· + 1) (RepA.length r)
theorem RepK.length : ∀ {v : List (Key × V)} {d : List (DK × DT)}, RepK F H v d → v.length = d.length
  | _, _, .nil => rfl
  | _, _, .cons _ r => congrArg (· + 1) (RepK.length r)
theorem RepA.get : ∀ {v : List V} {d : List DT} {i : Nat} {x : DT}, RepA F H v d → d[i]? = some x → ∃ u, v[i]? = some u ∧ Rep F H u x
  | _, _, _, _, .nil, e => by simp at e
  | _, _, 0, _, .cons r _, e => by simp at e; subst e; exact ⟨_, rfl, r⟩
  | _, _, i + 1, x, .cons _ t, e => by
    obtain ⟨u, h1, h2⟩ := RepA.get (i := i) (x := x) t (by simpa using e)
    exact ⟨u, by simpa using h1, h2⟩
theorem RepA.get' : ∀ {v : List V} {d : List DT} {i : Nat} {u : V}, RepA F H v d → v[i]? = some u → ∃ x, d[i]? = some x ∧ Rep F H u x
  | _, _, _, _, .nil, e => by simp at e
  | _, _, 0, _, .cons r _, e => by simp at e; subst e; exact ⟨_, rfl, r⟩
  | _, _, i + 1, x, .cons _ t, e => by
    obtain ⟨u, h1, h2⟩ := RepA.get' (i := i) (u := x) t (by simpa using e)
    exact ⟨u, by simpa using h1, h2⟩
theorem RepA.set {x : DT} {u : V} (r : Rep F H u x) : ∀ {v : List V} {d : List DT} (i : Nat), RepA F H v d → RepA F H (v.set i u) (d.set i x)
  | _, _, _, .nil => .nil
  | _, _, 0, .cons _ t => .cons r t
  | _, _, i + 1, .cons q t => .cons q (RepA.set r i t)
theorem RepA.append : ∀ {v : List V} {d : List DT} {v2 : List V} {d2 : List DT}, RepA F H v d → RepA F H v2 d2 → RepA F H (v ++ v2) (d ++ d2)
  | _, _, _, _, .nil, s => s
  | _, _, _, _, .cons r t, s => .cons r (RepA.append t s)
theorem RepA.take : ∀ {v : List V} {d : List DT} (n : Nat), RepA F H v d → RepA F H (v.take n) (d.take n)
  | _, _, 0, _ => .nil
  | _, _, _ + 1, .nil => .nil
  | _, _, n + 1, .cons r t => .cons r (RepA.take n t)
theorem RepA.drop : ∀ {v : List V} {d : List DT} (n : Nat), RepA F H v d → RepA F H (v.drop n) (d.drop n)
  | _, _, 0, r => r
  | _, _, _ + 1, .nil => .nil
  | _, _, n + 1, .cons _ t => RepA.drop n t
theorem RepA.rep : ∀ {v : List V} {d : List DT} (n : Nat), RepA F H v d → RepA F H (List.replicate n v).flatten (List.replicate n d).flatten
  | _, _, 0, _ => .nil
  | v, d, n + 1, r => by
    rw [List.replicate_succ, List.replicate_succ, List.flatten_cons, List.flatten_cons]
    exact r.append (RepA.rep n r)
theorem RepF.lookup : ∀ {v : List (Str × V)} {d : List (Str × DT)} {x : Str} {y : DT}, RepF F H v d → d.lookup x = some y → ∃ u, v.lookup x = some u ∧ Rep F H u y
  | _, _, _, _, .nil, e => by simp at e
  | _, _, x, y, .cons (k := k) r t, e => by
    rw [List.lookup_cons] at e ⊢
    cases h : x == k with
    | true => rw [h] at e; cases e; exact ⟨_, rfl, r⟩
    | false => rw [h] at e; exact RepF.lookup t e
/-- the keys -/
theorem keyD_inj {a b : DK} (h : keyD a = keyD b) : a = b := by
  cases a with
  | inl i => cases b with
    | inl j => cases h; rfl
    | inr t => cases h
  | inr s => cases b with
    | inl j => cases h
    | inr t => rw [S_inj (Sum.inr.inj h)]
theorem Rep.key {v : V} {k : DK} (h : Rep F H v (dk k)) : v = kV (keyD k) := by
  cases k with
  | inl i => cases h; rfl
  | inr s => cases h; rfl
end

/-! ### cells -/
inductive Cell where
  | lst (ds : List DT) | dct (kvs : List (DK × DT)) | obj (C : Addr) (fs : List (Str × DT))
def Cell.tree : Cell → DT
  | .lst ds => .lst ds
  | .dct ds => .dct ds
  | .obj C fs => .obj C fs
abbrev Sg := Addr → Option Cell
def su (σ : Sg) (p : Addr) (c : Cell) : Sg := fun q => if q = p then some c else σ q
def sd (σ : Sg) (p : Addr) : Sg := fun q => if q = p then none else σ q
@[simp] theorem su_same {σ : Sg} {p : Addr} {c : Cell} : su σ p c p = some c := if_pos rfl
theorem su_ne {σ : Sg} {p q : Addr} {c : Cell} (h : q ≠ p) : su σ p c q = σ q := if_neg h
@[simp] theorem sd_same {σ : Sg} {p : Addr} : sd σ p p = none := if_pos rfl
theorem sd_ne {σ : Sg} {p q : Addr} (h : q ≠ p) : sd σ p q = σ q := if_neg h
@[simp] theorem su_su {σ : Sg} {p : Addr} {c c' : Cell} : su (su σ p c) p c' = su σ p c' := by
  funext q
  unfold su
  split <;> rfl
theorem sd_su {σ : Sg} {p : Addr} {c : Cell} (h : σ p = none) : sd (su σ p c) p = σ := by
  funext q
  unfold sd su
  split
  · next e => rw [e, h]
  · rfl
theorem su_comm {σ : Sg} {p q : Addr} {c c' : Cell} (h : p ≠ q) : su (su σ p c) q c' = su (su σ q c') p c := by
  funext a
  unfold su
  by_cases e : a = p
  · by_cases e2 : a = q
    · exact absurd (e.symm.trans e2) h
    · simp [e, h]
  · simp [e]
theorem su_self {σ : Sg} {p : Addr} {c : Cell} (h : σ p = some c) : su σ p c = σ := by
  funext a
  unfold su
  split
  · next e => rw [e, h]
  · rfl
section
variable (F : PySem.W.Frag)
def CRep (H K : Hp) (p : Addr) : Cell → Prop
  | .lst ds => ∃ vs, K p = some (.lst vs) ∧ RepA F H vs ds
  | .dct ds => ∃ vs, K p = some (.dK vs) ∧ RepK F H vs ds
  | .obj C ds => ∃ dx vs, K p = some (.ins C dx vs) ∧ K dx = some (.own p) ∧ RepF F H vs ds
structure Wd (H : Hp) (σ : Sg) (K : Hp) : Prop where
  le : Same H K
  off : ∀ p c, σ p = some c → H p = none
  on : ∀ p c, σ p = some c → CRep F H K p c
end
/-- the way from one state to a later one: what is known for good stays, what is no cell stays, new cells are new objects -/
structure Gw (H : Hp) (σ : Sg) (K H' : Hp) (σ' : Sg) (K' : Hp) : Prop where
  b : Same H H'
  k : ∀ a o, σ a = none → K a = some o → K' a = some o
  n : ∀ a, σ a = none → σ' a ≠ none → K a = none
  f : ∀ a, H a = none → H' a ≠ none → σ a = none → K a = none ∨ ∃ p, K a = some (.own p)
theorem Gw.refl {H K : Hp} {σ : Sg} : Gw H σ K H σ K := ⟨Same.refl H, fun _ _ _ e => e, fun a h n => absurd h n, fun a h n => absurd h n⟩
theorem Gw.trans {H H1 H2 K K1 K2 : Hp} {σ σ1 σ2 : Sg} (g : Gw H σ K H1 σ1 K1) (g2 : Gw H1 σ1 K1 H2 σ2 K2) : Gw H σ K H2 σ2 K2 where
  b := g.b.trans g2.b
  k := fun a o h e => by
    refine g2.k a o ?_ (g.k a o h e)
    cases q : σ1 a with
    | none => rfl
    | some c =>
      have := g.n a h (by rw [q]; exact Option.some_ne_none _)
      rw [this] at e
      cases e
  n := fun a h z => by
    cases q : σ1 a with
    | none =>
      have k1 := g2.n a q z
      cases e : K a with
      | none => rfl
      | some o =>
        rw [g.k a o h e] at k1
        cases k1
    | some c => exact g.n a h (by rw [q]; exact Option.some_ne_none _)
  f := fun a h z e => by
    by_cases q : H1 a = none
    · cases q1 : σ1 a with
      | some c => exact .inl (g.n a e (by rw [q1]; exact Option.some_ne_none _))
      | none =>
        cases q2 : K a with
        | none => exact .inl rfl
        | some o =>
          have k1 := g.k a o e q2
          rcases g2.f a q z q1 with r | ⟨p, r⟩
          · rw [k1] at r; cases r
          · rw [k1] at r; cases r; exact .inr ⟨p, rfl⟩
    · exact g.f a h q e
theorem Gw.drop {H H1 K K1 : Hp} {σ σ1 : Sg} {p : Addr} (g : Gw H σ K H1 σ1 K1) : Gw H σ K H1 (sd σ1 p) K1 := ⟨g.b, g.k, fun a h z => g.n a h fun e => z (by
  by_cases q : a = p
  · rw [q, sd_same]
  · rw [sd_ne q, e]), g.f⟩
theorem Gw.newC {H K : Hp} {σ : Sg} {p : Addr} {c : Cell} {o : HO} (h : K p = none) : Gw H σ K H (su σ p c) (upd K p o) := ⟨Same.refl H, fun a u _ e => by rw [upd_ne (ne_of_none e h)]; exact e, fun a e z => by
  by_cases q : a = p
  · rw [q]; exact h
  · rw [su_ne q] at z; exact absurd e z, fun a h z => absurd h z⟩
theorem Gw.write {H K : Hp} {σ : Sg} {p : Addr} {c c' : Cell} {o : HO} (h : σ p = some c) : Gw H σ K H (su σ p c') (upd K p o) := ⟨Same.refl H, fun a u e e2 => by rw [upd_ne (fun q => by rw [q, h] at e; cases e)]; exact e2, fun a e z => by
  rw [su_ne (fun q => by rw [q, h] at e; cases e)] at z
  exact absurd e z, fun a h z => absurd h z⟩
theorem Gw.push {H K : Hp} {σ : Sg} {p : Addr} {o : HO} (h : K p = none) : Gw H σ K H σ (upd K p o) := ⟨Same.refl H, fun a u _ e => by rw [upd_ne (ne_of_none e h)]; exact e, fun a e z => absurd e z, fun a h z => absurd h z⟩
section
variable {F : PySem.W.Frag} {H H' K K' : Hp} {σ : Sg} {p : Addr} {c : Cell}
theorem CRep.here (h : CRep F H K p c) : ∃ o, K p = some o := by
  cases c with
  | lst ds => obtain ⟨vs, e, _⟩ := h; exact ⟨_, e⟩
  | dct ds => obtain ⟨vs, e, _⟩ := h; exact ⟨_, e⟩
  | obj C ds => obtain ⟨dx, vs, e, _⟩ := h; exact ⟨_, e⟩
theorem CRep.mut (h : CRep F H K p c) : ∀ a, K p ≠ some (.own a) := fun a q => by
  cases c with
  | lst ds => obtain ⟨vs, e, _⟩ := h; rw [e] at q; cases q
  | dct ds => obtain ⟨vs, e, _⟩ := h; rw [e] at q; cases q
  | obj C ds => obtain ⟨dx, vs, e, _⟩ := h; rw [e] at q; cases q
/-- what a cell's description leans on: its own object, its own dict -/
theorem CRep.stay (h : CRep F H K p c) (s : Same H H') (k : ∀ a o, (a = p ∨ o = .own p) → K a = some o → K' a = some o) : CRep F H' K' p c := by
  cases c with
  | lst ds => obtain ⟨vs, e, r⟩ := h; exact ⟨vs, k _ _ (.inl rfl) e, r.same s⟩
  | dct ds => obtain ⟨vs, e, r⟩ := h; exact ⟨vs, k _ _ (.inl rfl) e, r.same s⟩
  | obj C ds => obtain ⟨dx, vs, e, e2, r⟩ := h; exact ⟨dx, vs, k _ _ (.inl rfl) e, k _ _ (.inr rfl) e2, r.same s⟩
theorem Wd.free (w : Wd F H σ K) {a : Addr} (h : K a = .none) : σ a = .none := by
  cases e : σ a with
  | none => rfl
  | some c =>
    obtain ⟨o, q⟩ := (w.on a c e).here
    rw [h] at q
    cases q
theorem none_of {H K : Hp} (s : Same H K) {p : Addr} (h : K p = .none) : H p = .none := by
  cases e : H p with
  | none => rfl
  | some o => rw [s _ _ e] at h; cases h
/-- a new object, known for good -/
theorem Wd.new (w : Wd F H σ K) {o : HO} (h : K p = .none) : Gw H σ K (upd H p o) σ (upd K p o) ∧ Wd F (upd H p o) σ (upd K p o) := by
  have hp : H p = .none := none_of w.le h
  refine ⟨⟨same_upd hp, (Gw.push (H := H) h).k, (Gw.push (H := H) (o := o) h).n, fun a e z _ => .inl (by
    by_cases q : a = p
    · rw [q]; exact h
    · rw [upd_ne q] at z; exact absurd e z)⟩, fun a u e => ?_, fun q c e => ?_, fun q c e => ?_⟩
  · by_cases z : a = p
    · subst z
      rw [upd_same] at e
      cases e
      exact upd_same
    · rw [upd_ne z] at e
      rw [upd_ne z]
      exact w.le a u e
  · have ne : q ≠ p := fun z => by
      obtain ⟨u, e2⟩ := (w.on q c e).here
      rw [z, h] at e2
      cases e2
    rw [upd_ne ne]
    exact w.off q c e
  · exact (w.on q c e).stay (same_upd hp) fun a u _ e2 => by rw [upd_ne (ne_of_none e2 h)]; exact e2
/-- a new object that stays untold -/
theorem Wd.push (w : Wd F H σ K) {o : HO} (h : K p = .none) : Wd F H σ (upd K p o) := by
  have hp : H p = .none := none_of w.le h
  refine ⟨fun a u e => ?_, w.off, fun q c e => (w.on q c e).stay (Same.refl H) fun a u _ e2 => by rw [upd_ne (ne_of_none e2 h)]; exact e2⟩
  rw [upd_ne (ne_of_none e hp)]
  exact w.le a u e
/-- an object that stands is a cell from now on -/
theorem Wd.add (w : Wd F H σ K) (hp : H p = .none) (r : CRep F H K p c) : Wd F H (su σ p c) K := by
  refine ⟨w.le, fun q u e => ?_, fun q u e => ?_⟩
  · by_cases z : q = p
    · rw [z]; exact hp
    · rw [su_ne z] at e
      exact w.off q u e
  · by_cases z : q = p
    · subst z
      rw [su_same] at e
      cases e
      exact r
    · rw [su_ne z] at e
      exact w.on q u e
theorem Wd.drop (w : Wd F H σ K) : Wd F H (sd σ p) K := by
  have f : ∀ {q u}, sd σ p q = some u → σ q = some u := fun {q u} e => by
    by_cases z : q = p
    · rw [z, sd_same] at e; cases e
    · rwa [sd_ne z] at e
  exact ⟨w.le, fun q u e => w.off q u (f e), fun q u e => w.on q u (f e)⟩
/-- a cell's object is written -/
theorem Wd.write (w : Wd F H σ K) {o : HO} {c' : Cell} (hc : σ p = some c) (r : CRep F H (upd K p o) p c') : Wd F H (su σ p c') (upd K p o) := by
  have mu := (w.on p c hc).mut
  refine ⟨fun a u e => ?_, fun q u e => ?_, fun q u e => ?_⟩
  · have z : a ≠ p := fun z => by rw [z, w.off p c hc] at e; cases e
    rw [upd_ne z]
    exact w.le a u e
  · by_cases z : q = p
    · rw [z]; exact w.off p c hc
    · rw [su_ne z] at e
      exact w.off q u e
  · by_cases z : q = p
    · subst z
      rw [su_same] at e
      cases e
      exact r
    · rw [su_ne z] at e
      refine (w.on q u e).stay (Same.refl H) fun a u2 h e2 => ?_
      have ne : a ≠ p := fun z2 => by
        rcases h with h | h
        · exact z (h.symm.trans z2)
        · subst h
          rw [z2] at e2
          exact mu _ e2
      rw [upd_ne ne]
      exact e2
/-- a cell is known for good from now on (a dict is locked) -/
theorem Wd.freeze {X : Cx} {pins : List (Addr × Obj)} {st : L2.St} {s : Shared} (w : Wd F H σ K) (hc : σ p = some c) (I : Inv X pins st K s) : ∃ H' K', Inv X pins st K' s ∧ Gw H σ K H' (sd σ p) K' ∧ Wd F H' (sd σ p) K' ∧ Rep F H' (.ref p) c.tree := by
  have gn : ∀ a, σ a = none → sd σ p a ≠ none → K a = none := fun a h z => absurd ((Gw.refl (H := H) (σ := σ) (K := K)).drop (p := p) |>.n a h z) (fun e => z (by
    by_cases q : a = p
    · rw [q, sd_same]
    · rw [sd_ne q, h]))
  have gf : ∀ {o : HO} (a : Addr), H a = none → (upd H p o) a ≠ none → σ a = none → K a = none ∨ ∃ p, K a = some (.own p) := fun {o} a e z h => by
    by_cases q : a = p
    · rw [q, hc] at h; cases h
    · rw [upd_ne q] at z; exact absurd e z
  have hp := w.off p c hc
  have r := w.on p c hc
  have off : ∀ {o : HO}, ∀ q u, sd σ p q = some u → (upd H p o) q = none := fun {o} q u q2 => by
    have ne : q ≠ p := fun z => by rw [z, sd_same] at q2; cases q2
    rw [upd_ne ne]
    exact w.drop.off q u q2
  have base : ∀ {o : HO}, K p = some o → Same H (upd H p o) ∧ Wd F (upd H p o) (sd σ p) K := fun {o} e => by
    refine ⟨same_upd hp, fun a u q => ?_, off, fun q u q2 => (w.drop.on q u q2).stay (same_upd hp) fun _ _ _ e => e⟩
    by_cases z : a = p
    · subst z
      rw [upd_same] at q
      cases q
      exact e
    · rw [upd_ne z] at q
      exact w.le a u q
  cases c with
  | lst ds =>
    obtain ⟨vs, e, ra⟩ := r
    obtain ⟨s, w'⟩ := base e
    exact ⟨_, K, I, ⟨s, fun _ _ _ e => e, gn, gf⟩, w', .lst upd_same (ra.same s)⟩
  | dct ds =>
    obtain ⟨vs, e, ra⟩ := r
    obtain ⟨od, I'⟩ := I.lock e trivial
    have sd' : Same H (upd H p (.frz od (.dK vs))) := same_upd hp
    refine ⟨upd H p (.frz od (.dK vs)), _, I', ⟨sd', fun a o h2 e2 => by rw [upd_ne (fun q => by rw [q, hc] at h2; cases h2)]; exact e2, gn, gf⟩, ⟨fun a u q => ?_, off, fun q u q2 => ?_⟩, .dct upd_same (ra.same sd')⟩
    · by_cases z : a = p
      · subst z
        rw [upd_same] at q ⊢
        exact q
      · rw [upd_ne z] at q ⊢
        exact w.le a u q
    · refine (w.drop.on q u q2).stay sd' fun a o h e2 => ?_
      have ne : a ≠ p := fun z2 => by
        rcases h with h | h
        · rw [← h, z2, sd_same] at q2; cases q2
        · rw [z2, e] at e2; subst h; cases e2
      rw [upd_ne ne]
      exact e2
  | obj C ds =>
    obtain ⟨dx, vs, e, e2, ra⟩ := r
    obtain ⟨s, w'⟩ := base e
    have ne : dx ≠ p := fun z => by rw [z, e] at e2; cases e2
    have s2 : Same (upd H p (.ins C dx vs)) (upd (upd H p (.ins C dx vs)) dx (.own p)) := fun a u q => by
      by_cases z : a = dx
      · subst z
        have k := w'.le a u q
        rw [e2] at k
        cases k
        exact upd_same
      · rw [upd_ne z]; exact q
    refine ⟨_, K, I, ⟨s.trans s2, fun _ _ _ e => e, gn, fun a e z h => by
      by_cases q : a = dx
      · rw [q]; exact .inr ⟨p, e2⟩
      · rw [upd_ne q] at z; exact gf a e z h⟩, ⟨fun a u q => ?_, fun q u q2 => ?_, fun q u q2 => (w'.on q u q2).stay s2 fun _ _ _ e => e⟩, .obj (C := C) (dx := dx) (by rw [upd_ne (fun z => ne z.symm)]; exact upd_same) upd_same (ra.same (s.trans s2))⟩
    · by_cases z : a = dx
      · subst z
        rw [upd_same] at q
        cases q
        exact e2
      · rw [upd_ne z] at q
        exact w'.le a u q
    · have z : q ≠ dx := fun z => by
        have := (w'.on q u q2).mut p
        rw [z] at this
        exact this e2
      rw [upd_ne z]
      exact w'.off q u q2
end

/-! ### slots -/
abbrev EnvT := List (Option DT)
structure REnv (F : PySem.W.Frag) (H : Hp) (ρ : EnvT) (st : L2.St) : Prop where
  len : ρ.length = st.length
  get : ∀ (i : Nat) (d : DT), ρ[i]? = some (some d) → ∃ v, st[i]? = some (some v) ∧ Rep F H v d
section
variable {F : PySem.W.Frag} {H H' K K' : Hp} {ρ : EnvT} {st : L2.St}
theorem REnv.same (r : REnv F H ρ st) (s : Same H H') : REnv F H' ρ st := ⟨r.len, fun i d e => by
  obtain ⟨v, e1, e2⟩ := r.get i d e
  exact ⟨v, e1, e2.same s⟩⟩
theorem REnv.set (r : REnv F H ρ st) {v : V} {d : DT} (h : Rep F H v d) (i : Nat) : REnv F H (ρ.set i (some d)) (st.set i (some v)) := by
  refine ⟨by rw [List.length_set, List.length_set, r.len], fun j e q => ?_⟩
  rw [List.getElem?_set] at q ⊢
  by_cases z : i = j
  · rw [if_pos z] at q ⊢
    rw [← r.len]
    split at q
    · next l => rw [if_pos l]; cases q; exact ⟨v, rfl, h⟩
    · cases q
  · rw [if_neg z] at q ⊢
    exact r.get j e q
theorem REnv.unset (r : REnv F H ρ st) (i : Nat) : REnv F H (ρ.set i none) (st.set i none) := by
  refine ⟨by rw [List.length_set, List.length_set, r.len], fun j e q => ?_⟩
  rw [List.getElem?_set] at q ⊢
  by_cases z : i = j
  · rw [if_pos z] at q
    split at q <;> cases q
  · rw [if_neg z] at q ⊢
    exact r.get j e q
def wipeT (ρ : EnvT) : List Nat → EnvT
  | [] => ρ
  | v :: vs => (wipeT ρ vs).set v none
theorem REnv.wipe (r : REnv F H ρ st) : ∀ vs : List Nat, REnv F H (wipeT ρ vs) (L2.wipe st vs)
  | [] => r
  | v :: vs => (REnv.wipe r vs).unset v
theorem renv_start {vs : List V} {ds : List DT} (r : RepA F H vs ds) (n : Nat) : REnv F H (ds.map some ++ List.replicate n none) (vs.map some ++ List.replicate n none) := by
  constructor
  · simp [r.length]
  · intro i d e
    by_cases h : i < ds.length
    · rw [List.getElem?_append_left (by simpa using h), List.getElem?_map] at e
      rw [List.getElem?_append_left (by simpa [r.length] using h), List.getElem?_map]
      obtain ⟨x, e1, e2⟩ := Option.map_eq_some_iff.mp e
      cases e2
      obtain ⟨u, h1, h2⟩ := r.get e1
      exact ⟨u, by rw [h1]; exact rfl, h2⟩
    · rw [List.getElem?_append_right (by simpa using h)] at e
      rw [List.getElem?_replicate] at e
      split at e <;> cases e
end
end Y

/-! Y1: judgements over trees: expressions. -/
namespace Y
open PySem PySem.Spec L2 SX Z

/-- what may leave: a class, an own dict -/
abbrev TX := Value → Option (List (Str × DT)) → Sg → Prop
abbrev TX0 : TX := fun _ _ _ => False
inductive XRep (F : PySem.W.Frag) (H : Hp) : Option Addr → Option (List (Str × DT)) → Prop
  | nil : XRep F H none none
  | dict {d : Addr} {vs : List (Str × V)} {fs : List (Str × DT)} : H d = some (.xd vs) → RepF F H vs fs → XRep F H (some d) (some fs)
/-- errors leave as told -/
def XC (c : Ct) (H : Hp) (σ : Sg) (K : Hp) (st : L2.St) (E : TX) : Prop := ∀ cls dA x σ' H' K', Gw H σ K H' σ' K' → Wd c.K H' σ' K' → XRep c.K H' dA x → E cls x σ' → c.Wx cls dA st K'
theorem XC.next {c : Ct} {H H' K K' : Hp} {σ σ' : Sg} {st : L2.St} {E : TX} (f : XC c H σ K st E) (s : Gw H σ K H' σ' K') : XC c H' σ' K' st E := fun cls dA x σ' H2 K2 s2 => f cls dA x σ' H2 K2 (s.trans s2)
/-- what follows, over trees, serves what follows, over the heap -/
def Fo {α β : Type} (c : Ct) (R : Hp → α → β → Prop) (H : Hp) (σ : Sg) (K : Hp) (Q : β → Sg → Prop) (Q' : α → Hp → Prop) : Prop := ∀ v d σ' H' K', Gw H σ K H' σ' K' → Wd c.K H' σ' K' → R H' v d → Q d σ' → Q' v K'
theorem Fo.next {α β : Type} {c : Ct} {R : Hp → α → β → Prop} {H H' K K' : Hp} {σ σ' : Sg} {Q : β → Sg → Prop} {Q' : α → Hp → Prop} (f : Fo c R H σ K Q Q') (s : Gw H σ K H' σ' K') : Fo c R H' σ' K' Q Q' := fun v d σ' H2 K2 s2 => f v d σ' H2 K2 (s.trans s2)
abbrev RB : Hp → Bool → Bool → Prop := fun _ a b => a = b

structure TE (c : Ct) (e : Expr) (ρ : EnvT) (σ : Sg) (Q : DT → Sg → Prop) (E : TX) : Prop where
  run : ∀ X, Con c X → ∀ st H K, Wd c.K H σ K → REnv c.K H ρ st → XC c H σ K st E → ∀ Q' : VK, Fo c (Rep c.K) H σ K Q Q' → cE X e st K Q'
structure TT (c : Ct) (e : Expr) (ρ : EnvT) (σ : Sg) (Q : Bool → Sg → Prop) (E : TX) : Prop where
  run : ∀ X, Con c X → ∀ st H K, Wd c.K H σ K → REnv c.K H ρ st → XC c H σ K st E → ∀ Q' : Bool → Hp → Prop, Fo c RB H σ K Q Q' → cT X e st K Q'
structure TW (c : Ct) (e : Expr) (ρ : EnvT) (σ : Sg) (Q : Bool → Sg → Prop) (E : TX) : Prop where
  run : ∀ X, Con c X → ∀ st H K, Wd c.K H σ K → REnv c.K H ρ st → XC c H σ K st E → ∀ Q' : Bool → Hp → Prop, Fo c RB H σ K Q Q' → cW X e st K Q'
structure TA (c : Ct) (es : List Expr) (ρ : EnvT) (σ : Sg) (Q : List DT → Sg → Prop) (E : TX) : Prop where
  run : ∀ X, Con c X → ∀ st H K, Wd c.K H σ K → REnv c.K H ρ st → XC c H σ K st E → ∀ Q' : List V → Hp → Prop, Fo c (RepA c.K) H σ K Q Q' → cA X es st K Q'
/-- operations by values: they leave the cells as they are -/
structure PO2 (c : Ct) (f : Value → Value → Sem Value) (x y : DT) (σ : Sg) (d : DT) : Prop where
  run : ∀ X, Con c X → ∀ H K, Wd c.K H σ K → ∀ v u, Rep c.K H v x → Rep c.K H u y → ∀ Q' : VK, (∀ r H' K', Gw H σ K H' σ K' → Wd c.K H' σ K' → Rep c.K H' r d → Q' r K') → cO X f v u K Q'
structure PO1 (c : Ct) (f : Value → Sem Value) (x : DT) (σ : Sg) (d : DT) : Prop where
  run : ∀ X, Con c X → ∀ H K, Wd c.K H σ K → ∀ v, Rep c.K H v x → ∀ Q' : VK, (∀ r H' K', Gw H σ K H' σ K' → Wd c.K H' σ K' → Rep c.K H' r d → Q' r K') → cU X f v K Q'
structure POI (c : Ct) (x y : DT) (σ : Sg) (d : DT) : Prop where
  run : ∀ X, Con c X → ∀ H K, Wd c.K H σ K → ∀ v u, Rep c.K H v x → Rep c.K H u y → ∀ Q' : VK, (∀ r H' K', Gw H σ K H' σ K' → Wd c.K H' σ K' → Rep c.K H' r d → Q' r K') → cI X v u K Q'
structure POL (c : Ct) (x : DT) (lo hi : Option Int) (σ : Sg) (d : DT) : Prop where
  run : ∀ X, Con c X → ∀ H K, Wd c.K H σ K → ∀ v, Rep c.K H v x → ∀ Q' : VK, (∀ r H' K', Gw H σ K H' σ K' → Wd c.K H' σ K' → Rep c.K H' r d → Q' r K') → cL X v lo hi K Q'
structure POF (c : Ct) (f : Value) (xs : List DT) (σ : Sg) (d : DT) : Prop where
  run : ∀ X, Con c X → ∀ H K, Wd c.K H σ K → ∀ vs, RepA c.K H vs xs → ∀ Q' : VK, (∀ r H' K', Gw H σ K H' σ K' → Wd c.K H' σ K' → Rep c.K H' r d → Q' r K') → cF X f vs K Q'
/-- a method by values: it may change cells -/
structure TOM (c : Ct) (id : String) (x : DT) (xs : List DT) (σ : Sg) (Q : DT → Sg → Prop) : Prop where
  run : ∀ X, Con c X → ∀ H K, Wd c.K H σ K → ∀ v vs, Rep c.K H v x → RepA c.K H vs xs → ∀ Q' : VK, Fo c (Rep c.K) H σ K Q Q' → cM X id v vs K Q'
/-- e is d, and nothing changes -/
structure TV (c : Ct) (e : Expr) (ρ : EnvT) (σ : Sg) (d : DT) : Prop where
  to : ∀ {Q : DT → Sg → Prop} {E : TX}, Q d σ → TE c e ρ σ Q E
structure TB (c : Ct) (e : Expr) (ρ : EnvT) (σ : Sg) (b : Bool) : Prop where
  to : ∀ {Q : Bool → Sg → Prop} {E : TX}, Q b σ → TT c e ρ σ Q E
structure TBW (c : Ct) (e : Expr) (ρ : EnvT) (σ : Sg) (b : Bool) : Prop where
  to : ∀ {Q : Bool → Sg → Prop} {E : TX}, Q b σ → TW c e ρ σ Q E
structure TVA (c : Ct) (es : List Expr) (ρ : EnvT) (σ : Sg) (ds : List DT) : Prop where
  to : ∀ {Q : List DT → Sg → Prop} {E : TX}, Q ds σ → TA c es ρ σ Q E
section
variable {c : Ct} {ρ : EnvT} {σ : Sg} {Q : DT → Sg → Prop} {QB : Bool → Sg → Prop} {QA : List DT → Sg → Prop} {E : TX} {e a b t : Expr} {es rest : List Expr} {pos p : Pos} {d x y : DT} {ds : List DT}
theorem TE.imp {Q1 : DT → Sg → Prop} (h : TE c e ρ σ Q E) (k : ∀ d σ', Q d σ' → Q1 d σ') : TE c e ρ σ Q1 E := ⟨fun X hX st H K w r xc Q' f => h.run X hX st H K w r xc Q' fun v d σ' H' K' s w' rv q => f v d σ' H' K' s w' rv (k d σ' q)⟩
theorem TT.imp {Q1 : Bool → Sg → Prop} (h : TT c e ρ σ QB E) (k : ∀ d σ', QB d σ' → Q1 d σ') : TT c e ρ σ Q1 E := ⟨fun X hX st H K w r xc Q' f => h.run X hX st H K w r xc Q' fun v d σ' H' K' s w' rv q => f v d σ' H' K' s w' rv (k d σ' q)⟩
theorem TA.imp {Q1 : List DT → Sg → Prop} (h : TA c es ρ σ QA E) (k : ∀ d σ', QA d σ' → Q1 d σ') : TA c es ρ σ Q1 E := ⟨fun X hX st H K w r xc Q' f => h.run X hX st H K w r xc Q' fun v d σ' H' K' s w' rv q => f v d σ' H' K' s w' rv (k d σ' q)⟩
theorem TV.cast (h : TV c e ρ σ x) (q : x = y) : TV c e ρ σ y := q ▸ h
theorem TV.castI {i j : Int} (h : TV c e ρ σ (.int i)) (q : i = j) : TV c e ρ σ (.int j) := q ▸ h
theorem TV.castS {i j : List Nat} (h : TV c e ρ σ (.str i)) (q : i = j) : TV c e ρ σ (.str j) := q ▸ h
theorem TV.castL {i j : List DT} (h : TV c e ρ σ (.lst i)) (q : i = j) : TV c e ρ σ (.lst j) := q ▸ h
theorem TV.castB {i j : Bool} (h : TV c e ρ σ (.bl i)) (q : i = j) : TV c e ρ σ (.bl j) := q ▸ h
theorem TB.cast {i j : Bool} (h : TB c e ρ σ i) (q : i = j) : TB c e ρ σ j := q ▸ h
/-- a cell that is read off as the result is known for good from now on -/
theorem te_frz (h : TE c e ρ σ (fun d σ1 => ∃ p k, d = .ref p ∧ σ1 p = some k ∧ Q k.tree (sd σ1 p)) E) : TE c e ρ σ Q E := ⟨fun X hX st H K w r xc Q' f => fun pins s I => by
  refine thn (h.run X hX st H K w r xc (fun v K1 => ∃ p k σ1 H1, v = .ref p ∧ Gw H σ K H1 σ1 K1 ∧ Wd c.K H1 σ1 K1 ∧ σ1 p = some k ∧ Q k.tree (sd σ1 p)) (fun v d σ1 H1 K1 s w1 rv ⟨p, k, e1, e2, q⟩ => ?_) pins s I) fun u s1 ⟨v, K1, I1, r1, p, k, σ1, H1, e1, s2, w1, e2, q⟩ => ?_
  · subst e1
    cases rv
    exact ⟨p, k, σ1, H1, rfl, s, w1, e2, q⟩
  · subst e1
    obtain ⟨H2, K2, I2, s3, w2, r2⟩ := w1.freeze e2 I1
    exact ⟨_, K2, I2, r1, f _ _ _ H2 K2 (s2.trans s3) w2 r2 q⟩⟩
theorem te_drop (p : Addr) (h : TE c e ρ σ (fun d σ1 => Q d (sd σ1 p)) E) : TE c e ρ σ Q E := ⟨fun X hX st H K w r xc Q' f => h.run X hX st H K w r xc Q' fun v d σ1 H1 K1 s w1 rv q => f v d _ H1 K1 s.drop w1.drop rv q⟩

/-! names, constants -/
def lkT (N : List Str) (ρ : EnvT) (x : Str) : Option DT := if N.idxOf x < N.length then (match ρ[N.idxOf x]? with | some (some d) => some d | _ => none) else none
theorem tv_nm {x : Str} (h : lkT c.N ρ x = some d) (hv : visB c.sc x = true) (hd : (x == ("__debug__" : Str)) = false := by decide) (hcd : (x == ("__classdict__" : Str)) = false := by decide) : TV c (.Name x pos) ρ σ d := ⟨fun {Q E} q => ⟨fun X hX st H K w r xc Q' f => by
  cases hX
  unfold lkT at h
  split at h
  · next hl =>
    split at h
    · next e =>
      cases h
      obtain ⟨v, e1, e2⟩ := r.get _ _ e
      exact cE_of (pe_var (by rw [List.getElem?_eq_getElem hl, List.getElem_idxOf]) (visB_vis hv) hd hcd) ⟨v, e1, f v d σ H K Gw.refl w e2 q⟩
    · cases h
  · cases h⟩⟩
theorem tv_int {i : Int} {k : Nat} : TV c (.Constant (.int i) k pos) ρ σ (.int i) := ⟨fun {Q E} q => ⟨fun X hX st H K w r xc Q' f => cE_of pe_int (f _ _ σ H K Gw.refl w (.int i) q)⟩⟩
theorem tv_str {i : Str} {k : Nat} : TV c (.Constant (.str i) k pos) ρ σ (.str (sOf i)) := ⟨fun {Q E} q => ⟨fun X hX st H K w r xc Q' f => cE_of pe_str (f _ _ σ H K Gw.refl w (by have := Rep.str (F := c.K) (H := H) (sOf i); rwa [S_sOf] at this) q)⟩⟩
theorem tv_bl {i : Bool} {k : Nat} : TV c (.Constant (.bool i) k pos) ρ σ (.bl i) := ⟨fun {Q E} q => ⟨fun X hX st H K w r xc Q' f => cE_of pe_bl (f _ _ σ H K Gw.refl w (.bl i) q)⟩⟩
theorem tv_non {k : Nat} : TV c (.Constant .none k pos) ρ σ .non := ⟨fun {Q E} q => ⟨fun X hX st H K w r xc Q' f => cE_of pe_non (f _ _ σ H K Gw.refl w .non q)⟩⟩
/-- a module's name -/
def GlT (F : PySem.W.Frag) (mg : Str → Option Value) (x : Str) (d : DT) : Prop := ∃ u v, mg x = some u ∧ RelV v u ∧ ∀ H, Rep F H v d
theorem tv_gl {x : Str} (hg : GlS c x) (h : GlT c.K c.mg x d) (hd : (x == ("__debug__" : Str)) = false := by decide) : TV c (.Name x pos) ρ σ d := ⟨fun {Q E} q => ⟨fun X hX st H K w r xc Q' f => by
  cases hX
  obtain ⟨u, v, hm, rv, rp⟩ := h
  exact cE_of (pe_glob hg hm rv hd) (f v d σ H K Gw.refl w (rp H) q)⟩⟩
theorem tv_ty {x : Str} {n : String} (hg : GlS c x) (hm : c.mg x = none) (hv : bootBuiltins x = some (.type n)) (hn : x ≠ "__name__" := by decide) (hd : (x == ("__debug__" : Str)) = false := by decide) : TV c (.Name x pos) ρ σ (.ty n) := ⟨fun {Q E} q => ⟨fun X hX st H K w r xc Q' f => by
  cases hX
  exact cE_of (pe_bltn (v := .ty n) hg hm hv rfl hn hd) (f (.ty n) _ σ H K Gw.refl w (.ty n) q)⟩⟩

/-! operators -/
theorem te_bin {op : Operator} (h : TE c a ρ σ (fun x σ1 => TE c b ρ σ1 (fun y σ2 => ∃ d, PO2 c (binaryOp op) x y σ2 d ∧ Q d σ2) E) E) : TE c (.BinOp a op b pos) ρ σ Q E := ⟨fun X hX st H K w r xc Q' f => by
  refine cE_of (pe_op cO_or cE_pe cE_pe) ?_
  refine h.run X hX st H K w r xc _ fun v x σ1 H1 K1 s1 w1 r1 h1 => ?_
  refine h1.run X hX st H1 K1 w1 (r.same s1.b) (xc.next s1) _ fun u y σ2 H2 K2 s2 w2 r2 ⟨d, h2, q⟩ => ?_
  exact h2.run X hX H2 K2 w2 v u (r1.same s2.b) r2 _ fun z H3 K3 s3 w3 r3 => f z d σ2 H3 K3 (s1.trans (s2.trans s3)) w3 r3 q⟩
theorem tv_bin {op : Operator} (ha : TV c a ρ σ x) (hb : TV c b ρ σ y) (ho : PO2 c (binaryOp op) x y σ d) : TV c (.BinOp a op b pos) ρ σ d := ⟨fun {Q E} q => te_bin (ha.to (hb.to ⟨d, ho, q⟩))⟩
theorem te_un {op : UnaryOp} (h : TE c a ρ σ (fun x σ1 => ∃ d, PO1 c (unaryOp op) x σ1 d ∧ Q d σ1) E) : TE c (.UnaryOp op a pos) ρ σ Q E := ⟨fun X hX st H K w r xc Q' f => by
  refine cE_of (pe_un cU_or cE_pe) ?_
  refine h.run X hX st H K w r xc _ fun v x σ1 H1 K1 s1 w1 r1 ⟨d, h1, q⟩ => ?_
  exact h1.run X hX H1 K1 w1 v r1 _ fun z H3 K3 s3 w3 r3 => f z d σ1 H3 K3 (s1.trans s3) w3 r3 q⟩
theorem tv_un {op : UnaryOp} (ha : TV c a ρ σ x) (ho : PO1 c (unaryOp op) x σ d) : TV c (.UnaryOp op a pos) ρ σ d := ⟨fun {Q E} q => te_un (ha.to ⟨d, ho, q⟩)⟩
theorem te_cmp {op : CmpOp} (h : TE c a ρ σ (fun x σ1 => TE c b ρ σ1 (fun y σ2 => ∃ d, PO2 c (compareOp op) x y σ2 d ∧ Q d σ2) E) E) (hm : behindInMarks op b = false) : TE c (.Compare a [op] [b] pos) ρ σ Q E := ⟨fun X hX st H K w r xc Q' f => by
  refine cE_of (pe_cmpR cO_or cE_pe cE_pe hm) ?_
  refine h.run X hX st H K w r xc _ fun v x σ1 H1 K1 s1 w1 r1 h1 => ?_
  refine h1.run X hX st H1 K1 w1 (r.same s1.b) (xc.next s1) _ fun u y σ2 H2 K2 s2 w2 r2 ⟨d, h2, q⟩ => ?_
  exact h2.run X hX H2 K2 w2 v u (r1.same s2.b) r2 _ fun z H3 K3 s3 w3 r3 => f z d σ2 H3 K3 (s1.trans (s2.trans s3)) w3 r3 q⟩
theorem tv_cmp {op : CmpOp} (ha : TV c a ρ σ x) (hb : TV c b ρ σ y) (ho : PO2 c (compareOp op) x y σ d) (hm : behindInMarks op b = false) : TV c (.Compare a [op] [b] pos) ρ σ d := ⟨fun {Q E} q => te_cmp (ha.to (hb.to ⟨d, ho, q⟩)) hm⟩
theorem tt_cmp {op : CmpOp} (h : TE c a ρ σ (fun x σ1 => TE c b ρ σ1 (fun y σ2 => ∃ r, PO2 c (compareOp op) x y σ2 (.bl r) ∧ QB r σ2) E) E) (hm : behindInMarks op b = false) : TT c (.Compare a [op] [b] pos) ρ σ QB E := ⟨fun X hX st H K w r xc Q' f => by
  refine cT_of (pt_cmpR cO_or cE_pe cE_pe hm) ?_
  refine h.run X hX st H K w r xc _ fun v x σ1 H1 K1 s1 w1 r1 h1 => ?_
  refine h1.run X hX st H1 K1 w1 (r.same s1.b) (xc.next s1) _ fun u y σ2 H2 K2 s2 w2 r2 ⟨d, h2, q⟩ => ?_
  refine h2.run X hX H2 K2 w2 v u (r1.same s2.b) r2 _ fun z H3 K3 s3 w3 r3 => ?_
  cases r3
  exact ⟨d, rfl, f d d σ2 H3 K3 (s1.trans (s2.trans s3)) w3 rfl q⟩⟩
theorem tb_cmp {op : CmpOp} {r : Bool} (ha : TV c a ρ σ x) (hb : TV c b ρ σ y) (ho : PO2 c (compareOp op) x y σ (.bl r)) (hm : behindInMarks op b = false) : TB c (.Compare a [op] [b] pos) ρ σ r := ⟨fun {Q E} q => tt_cmp (ha.to (hb.to ⟨r, ho, q⟩)) hm⟩
theorem te_sub (h : TE c a ρ σ (fun x σ1 => TE c b ρ σ1 (fun y σ2 => ∃ d, POI c x y σ2 d ∧ Q d σ2) E) E) (hs : PlainIx b := by exact fun _ _ => rfl) : TE c (.Subscript a b pos) ρ σ Q E := ⟨fun X hX st H K w r xc Q' f => by
  refine cE_of (pe_ix cI_ix cE_pe cE_pe hs) ?_
  refine h.run X hX st H K w r xc _ fun v x σ1 H1 K1 s1 w1 r1 h1 => ?_
  refine h1.run X hX st H1 K1 w1 (r.same s1.b) (xc.next s1) _ fun u y σ2 H2 K2 s2 w2 r2 ⟨d, h2, q⟩ => ?_
  exact h2.run X hX H2 K2 w2 v u (r1.same s2.b) r2 _ fun z H3 K3 s3 w3 r3 => f z d σ2 H3 K3 (s1.trans (s2.trans s3)) w3 r3 q⟩
theorem tv_sub (ha : TV c a ρ σ x) (hb : TV c b ρ σ y) (ho : POI c x y σ d) (hs : PlainIx b := by exact fun _ _ => rfl) : TV c (.Subscript a b pos) ρ σ d := ⟨fun {Q E} q => te_sub (ha.to (hb.to ⟨d, ho, q⟩)) hs⟩
/-- an optional part of a slice -/
def TO (c : Ct) (o : Option Expr) (ρ : EnvT) (σ : Sg) (Q : Option Int → Sg → Prop) (E : TX) : Prop :=
  match o with
  | none => Q none σ
  | some e => TE c e ρ σ (fun d σ1 => ∃ i, d = .int i ∧ Q (some i) σ1) E
theorem te_slice {lo hi : Option Expr} {p2 : Pos} (h : TE c a ρ σ (fun x σ1 => TO c lo ρ σ1 (fun l σ2 => TO c hi ρ σ2 (fun u σ3 => ∃ d, POL c x l u σ3 d ∧ Q d σ3) E) E) E) : TE c (.Subscript a (.Slice lo hi none p2) pos) ρ σ Q E := ⟨fun X hX st H K w r xc Q' f => by
  cases lo with
  | none =>
    cases hi with
    | none =>
      refine cE_of (pe_slice cL_sl cE_pe po_none po_none) ?_
      refine h.run X hX st H K w r xc _ fun v x σ1 H1 K1 s1 w1 r1 h1 => ?_
      obtain ⟨d, h2, q⟩ := h1
      exact h2.run X hX H1 K1 w1 v r1 _ fun z H3 K3 s3 w3 r3 => f z d σ1 H3 K3 (s1.trans s3) w3 r3 q
    | some u =>
      refine cE_of (pe_slice cL_sl cE_pe po_none (po_some cE_pe)) ?_
      refine h.run X hX st H K w r xc _ fun v x σ1 H1 K1 s1 w1 r1 h1 => ?_
      refine TE.run h1 X hX st H1 K1 w1 (r.same s1.b) (xc.next s1) _ fun u y σ2 H2 K2 s2 w2 r2 ⟨i, ei, d, h2, q⟩ => ?_
      subst ei
      cases r2
      exact ⟨i, rfl, h2.run X hX H2 K2 w2 v (r1.same s2.b) _ fun z H3 K3 s3 w3 r3 => f z d σ2 H3 K3 (s1.trans (s2.trans s3)) w3 r3 q⟩
  | some l =>
    cases hi with
    | none =>
      refine cE_of (pe_slice cL_sl cE_pe (po_some cE_pe) po_none) ?_
      refine h.run X hX st H K w r xc _ fun v x σ1 H1 K1 s1 w1 r1 h1 => ?_
      refine TE.run h1 X hX st H1 K1 w1 (r.same s1.b) (xc.next s1) _ fun u y σ2 H2 K2 s2 w2 r2 ⟨i, ei, h2⟩ => ?_
      obtain ⟨d, h2, q⟩ := h2
      subst ei
      cases r2
      exact ⟨i, rfl, h2.run X hX H2 K2 w2 v (r1.same s2.b) _ fun z H3 K3 s3 w3 r3 => f z d σ2 H3 K3 (s1.trans (s2.trans s3)) w3 r3 q⟩
    | some u =>
      refine cE_of (pe_slice cL_sl cE_pe (po_some cE_pe) (po_some cE_pe)) ?_
      refine h.run X hX st H K w r xc _ fun v x σ1 H1 K1 s1 w1 r1 h1 => ?_
      refine TE.run h1 X hX st H1 K1 w1 (r.same s1.b) (xc.next s1) _ fun u y σ2 H2 K2 s2 w2 r2 ⟨i, ei, h2⟩ => ?_
      subst ei
      cases r2
      refine ⟨i, rfl, ?_⟩
      refine TE.run h2 X hX st H2 K2 w2 (r.same (s1.trans s2).b) (xc.next (s1.trans s2)) _ fun u y σ3 H3 K3 s3 w3 r3 ⟨j, ej, d, h3, q⟩ => ?_
      subst ej
      cases r3
      exact ⟨j, rfl, h3.run X hX H3 K3 w3 v (r1.same (s2.trans s3).b) _ fun z H4 K4 s4 w4 r4 => f z d σ3 H4 K4 (s1.trans (s2.trans (s3.trans s4))) w4 r4 q⟩⟩
/-- .. by values -/
structure TVO (c : Ct) (o : Option Expr) (ρ : EnvT) (σ : Sg) (i : Option Int) : Prop where
  to : ∀ {Q : Option Int → Sg → Prop} {E : TX}, Q i σ → TO c o ρ σ Q E
theorem to_none : TVO c none ρ σ none := ⟨fun q => q⟩
theorem to_some {i : Int} (h : TV c e ρ σ (.int i)) : TVO c (some e) ρ σ (some i) := ⟨fun q => h.to ⟨i, rfl, q⟩⟩
theorem tv_slice {lo hi : Option Expr} {l u : Option Int} {p2 : Pos} (ha : TV c a ρ σ x) (hl : TVO c lo ρ σ l) (hu : TVO c hi ρ σ u) (ho : POL c x l u σ d) : TV c (.Subscript a (.Slice lo hi none p2) pos) ρ σ d :=
  ⟨fun {Q E} q => te_slice (ha.to (hl.to (hu.to ⟨d, ho, q⟩)))⟩

/-! arguments, displays -/
theorem ta_nil (h : QA [] σ) : TA c [] ρ σ QA E := ⟨fun X hX st H K w r xc Q' f => cA_of pa_nil (f [] [] σ H K Gw.refl w .nil h)⟩
theorem ta_cons (h : TE c a ρ σ (fun x σ1 => TA c es ρ σ1 (fun xs σ2 => QA (x :: xs) σ2) E) E) (hs : ∀ env, starEach (a :: es) env = (false, eval a env) :: starEach es env := by intro _; rfl) : TA c (a :: es) ρ σ QA E := ⟨fun X hX st H K w r xc Q' f => by
  refine cA_of (pa_cons cE_pe cA_pa (hs _)) ?_
  refine h.run X hX st H K w r xc _ fun v x σ1 H1 K1 s1 w1 r1 h1 => ?_
  exact h1.run X hX st H1 K1 w1 (r.same s1.b) (xc.next s1) _ fun us xs σ2 H2 K2 s2 w2 r2 q => f (v :: us) (x :: xs) σ2 H2 K2 (s1.trans s2) w2 (.cons (r1.same s2.b) r2) q⟩
theorem tva_nil : TVA c [] ρ σ [] := ⟨fun q => ta_nil q⟩
theorem tva_cons (ha : TV c a ρ σ x) (hb : TVA c es ρ σ ds) (hs : ∀ env, starEach (a :: es) env = (false, eval a env) :: starEach es env := by intro _; rfl) : TVA c (a :: es) ρ σ (x :: ds) := ⟨fun q => ta_cons (ha.to (hb.to q)) hs⟩
theorem te_lst (h : TA c es ρ σ (fun ds σ1 => ds.length ≤ 16777216 ∧ Q (.lst ds) σ1) E) : TE c (.List es pos) ρ σ Q E := ⟨fun X hX st H K w r xc Q' f => by
  refine cE_of (pe_lst cA_pa) ?_
  refine h.run X hX st H K w r xc _ fun vs ds σ1 H1 K1 s1 w1 r1 ⟨hl, q⟩ => ?_
  refine ⟨by rw [sizeLine_eq, r1.length]; exact hl, fun p hp => ?_⟩
  obtain ⟨s2, w2⟩ := w1.new (o := .lst vs) hp
  exact f _ _ σ1 _ _ (s1.trans s2) w2 (.lst upd_same (r1.same s2.b)) q⟩
/-- .. that is to change -/
theorem te_lstC (h : TA c es ρ σ (fun ds σ1 => ds.length ≤ 16777216 ∧ ∀ p, σ1 p = none → Q (.ref p) (su σ1 p (.lst ds))) E) : TE c (.List es pos) ρ σ Q E := ⟨fun X hX st H K w r xc Q' f => by
  refine cE_of (pe_lst cA_pa) ?_
  refine h.run X hX st H K w r xc _ fun vs ds σ1 H1 K1 s1 w1 r1 ⟨hl, q⟩ => ?_
  refine ⟨by rw [sizeLine_eq, r1.length]; exact hl, fun p hp => ?_⟩
  exact f _ _ _ H1 _ (s1.trans (Gw.newC hp)) ((w1.push (o := .lst vs) hp).add (c := .lst ds) (none_of w1.le hp) ⟨vs, upd_same, r1⟩) (.ref p) (q p (w1.free hp))⟩
theorem te_tup {k : Nat} (h : TA c es ρ σ (fun ds σ1 => ds.length ≤ 16777216 ∧ Q (.tup ds) σ1) E) : TE c (.Tuple es k pos) ρ σ Q E := ⟨fun X hX st H K w r xc Q' f => by
  refine cE_of (pe_tup cA_pa) ?_
  refine h.run X hX st H K w r xc _ fun vs ds σ1 H1 K1 s1 w1 r1 ⟨hl, q⟩ => ?_
  refine ⟨by rw [sizeLine_eq, r1.length]; exact hl, fun p hp => ?_⟩
  obtain ⟨s2, w2⟩ := w1.new (o := .tup vs) hp
  exact f _ _ σ1 _ _ (s1.trans s2) w2 (.tup (SqT.of upd_same) (r1.same s2.b)) q⟩
theorem tv_lst (h : TVA c es ρ σ ds) (hl : ds.length ≤ 16777216 := by exact Nat.le_of_ble_eq_true rfl) : TV c (.List es pos) ρ σ (.lst ds) := ⟨fun q => te_lst (h.to ⟨hl, q⟩)⟩
theorem tv_tup {k : Nat} (h : TVA c es ρ σ ds) (hl : ds.length ≤ 16777216 := by exact Nat.le_of_ble_eq_true rfl) : TV c (.Tuple es k pos) ρ σ (.tup ds) := ⟨fun q => te_tup (h.to ⟨hl, q⟩)⟩

/-! tests -/
theorem tt_val (h : TE c e ρ σ (fun d σ1 => ∃ r, d = .bl r ∧ QB r σ1) E)
    (he : ∀ env whole, isTrue e env whole = (do let v ← whole; standAt e.pos; holding [v] (truthy v)) := by intro _ _; rfl) : TT c e ρ σ QB E := ⟨fun X hX st H K w r xc Q' f => by
  refine cT_of (pt_val cE_pe (he _)) ?_
  refine h.run X hX st H K w r xc _ fun v d σ1 H1 K1 s1 w1 r1 ⟨b, e1, q⟩ => ?_
  subst e1
  cases r1
  exact ⟨b, rfl, f b b σ1 H1 K1 s1 w1 rfl q⟩⟩
theorem tb_val {r : Bool} (h : TV c e ρ σ (.bl r)) (he : ∀ env whole, isTrue e env whole = (do let v ← whole; standAt e.pos; holding [v] (truthy v)) := by intro _ _; rfl) : TB c e ρ σ r := ⟨fun q => tt_val (h.to ⟨r, rfl, q⟩) he⟩
theorem tt_not (h : TT c a ρ σ (fun r σ1 => QB (!r) σ1) E) : TT c (.UnaryOp .Not a pos) ρ σ QB E := ⟨fun X hX st H K w r xc Q' f => by
  refine cT_of (pt_not cT_pt) ?_
  exact h.run X hX st H K w r xc _ fun v d σ1 H1 K1 s1 w1 r1 q => f (!v) (!d) σ1 H1 K1 s1 w1 (congrArg (!·) r1) q⟩
theorem tb_not {r : Bool} (h : TB c a ρ σ r) : TB c (.UnaryOp .Not a pos) ρ σ (!r) := ⟨fun q => tt_not (h.to q)⟩
theorem tt_W (h : TW c e ρ σ QB E) : TT c e ρ σ QB E := ⟨fun X hX st H K w r xc Q' f => cT_of cW_pw.pt (h.run X hX st H K w r xc Q' f)⟩
theorem tb_W {r : Bool} (h : TBW c e ρ σ r) : TB c e ρ σ r := ⟨fun q => tt_W (h.to q)⟩
theorem tw_and1 (h : TT c a ρ σ QB E) : TW c (.BoolOp .And [a] pos) ρ σ QB E := ⟨fun X hX st H K w r xc Q' f => cW_of (pw_and1 cT_pt) (h.run X hX st H K w r xc Q' f)⟩
theorem tw_or1 (h : TT c a ρ σ QB E) : TW c (.BoolOp .Or [a] pos) ρ σ QB E := ⟨fun X hX st H K w r xc Q' f => cW_of (pw_or1 cT_pt) (h.run X hX st H K w r xc Q' f)⟩
theorem tw_and (h : TT c a ρ σ (fun r σ1 => (r = true → TW c (.BoolOp .And (b :: rest) pos) ρ σ1 QB E) ∧ (r = false → QB false σ1)) E) : TW c (.BoolOp .And (a :: b :: rest) pos) ρ σ QB E := ⟨fun X hX st H K w r xc Q' f => by
  refine cW_of (pw_and cT_pt cW_pw) ?_
  refine h.run X hX st H K w r xc _ fun v d σ1 H1 K1 s1 w1 r1 ⟨h1, h2⟩ => ?_
  subst r1
  cases v with
  | true => exact iteT ((h1 rfl).run X hX st H1 K1 w1 (r.same s1.b) (xc.next s1) _ fun v d σ2 H2 K2 s2 w2 r2 q => f v d σ2 H2 K2 (s1.trans s2) w2 r2 q)
  | false => exact iteF (f false false σ1 H1 K1 s1 w1 rfl (h2 rfl))⟩
theorem tw_or (h : TT c a ρ σ (fun r σ1 => (r = false → TW c (.BoolOp .Or (b :: rest) pos) ρ σ1 QB E) ∧ (r = true → QB true σ1)) E) : TW c (.BoolOp .Or (a :: b :: rest) pos) ρ σ QB E := ⟨fun X hX st H K w r xc Q' f => by
  refine cW_of (pw_or cT_pt cW_pw) ?_
  refine h.run X hX st H K w r xc _ fun v d σ1 H1 K1 s1 w1 r1 ⟨h1, h2⟩ => ?_
  subst r1
  cases v with
  | false => exact iteF ((h1 rfl).run X hX st H1 K1 w1 (r.same s1.b) (xc.next s1) _ fun v d σ2 H2 K2 s2 w2 r2 q => f v d σ2 H2 K2 (s1.trans s2) w2 r2 q)
  | true => exact iteT (f true true σ1 H1 K1 s1 w1 rfl (h2 rfl))⟩
theorem tbw_and1 {r : Bool} (h : TB c a ρ σ r) : TBW c (.BoolOp .And [a] pos) ρ σ r := ⟨fun q => tw_and1 (h.to q)⟩
theorem tbw_or1 {r : Bool} (h : TB c a ρ σ r) : TBW c (.BoolOp .Or [a] pos) ρ σ r := ⟨fun q => tw_or1 (h.to q)⟩
theorem tbw_and {r s : Bool} (h : TB c a ρ σ r) (h2 : r = true → TBW c (.BoolOp .And (b :: rest) pos) ρ σ s) : TBW c (.BoolOp .And (a :: b :: rest) pos) ρ σ (r && s) := ⟨fun {Q E} q => tw_and (h.to ⟨fun e => (h2 e).to (by rw [e] at q; exact q), fun e => by rw [e] at q; exact q⟩)⟩
theorem tbw_or {r s : Bool} (h : TB c a ρ σ r) (h2 : r = false → TBW c (.BoolOp .Or (b :: rest) pos) ρ σ s) : TBW c (.BoolOp .Or (a :: b :: rest) pos) ρ σ (r || s) := ⟨fun {Q E} q => tw_or (h.to ⟨fun e => (h2 e).to (by rw [e] at q; exact q), fun e => by rw [e] at q; exact q⟩)⟩
/-! and, or, not as values -/
theorem te_one {op : BoolOp} (h : TE c a ρ σ Q E) : TE c (.BoolOp op [a] pos) ρ σ Q E := ⟨fun X hX st H K w r xc Q' f => cE_of (pe_one cE_pe) (h.run X hX st H K w r xc Q' f)⟩
theorem te_and (h : TE c a ρ σ (fun d σ1 => ∃ r, d = .bl r ∧ (r = true → TE c (.BoolOp .And (b :: rest) pos) ρ σ1 Q E) ∧ (r = false → Q (.bl false) σ1)) E) : TE c (.BoolOp .And (a :: b :: rest) pos) ρ σ Q E := ⟨fun X hX st H K w r xc Q' f => by
  refine cE_of (pe_and cE_pe cE_pe) ?_
  refine h.run X hX st H K w r xc _ fun v d σ1 H1 K1 s1 w1 r1 ⟨t, e1, h1, h2⟩ => ?_
  subst e1
  cases r1
  refine ⟨t, rfl, ?_⟩
  cases t with
  | true => exact iteT ((h1 rfl).run X hX st H1 K1 w1 (r.same s1.b) (xc.next s1) _ fun v d σ2 H2 K2 s2 w2 r2 q => f v d σ2 H2 K2 (s1.trans s2) w2 r2 q)
  | false => exact iteF (f _ _ σ1 H1 K1 s1 w1 (.bl false) (h2 rfl))⟩
theorem te_or (h : TE c a ρ σ (fun d σ1 => ∃ r, d = .bl r ∧ (r = false → TE c (.BoolOp .Or (b :: rest) pos) ρ σ1 Q E) ∧ (r = true → Q (.bl true) σ1)) E) : TE c (.BoolOp .Or (a :: b :: rest) pos) ρ σ Q E := ⟨fun X hX st H K w r xc Q' f => by
  refine cE_of (pe_or cE_pe cE_pe) ?_
  refine h.run X hX st H K w r xc _ fun v d σ1 H1 K1 s1 w1 r1 ⟨t, e1, h1, h2⟩ => ?_
  subst e1
  cases r1
  refine ⟨t, rfl, ?_⟩
  cases t with
  | false => exact iteF ((h1 rfl).run X hX st H1 K1 w1 (r.same s1.b) (xc.next s1) _ fun v d σ2 H2 K2 s2 w2 r2 q => f v d σ2 H2 K2 (s1.trans s2) w2 r2 q)
  | true => exact iteT (f _ _ σ1 H1 K1 s1 w1 (.bl true) (h2 rfl))⟩
theorem tv_one {op : BoolOp} (h : TV c a ρ σ d) : TV c (.BoolOp op [a] pos) ρ σ d := ⟨fun q => te_one (h.to q)⟩
theorem tv_and {r s : Bool} (h : TV c a ρ σ (.bl r)) (h2 : r = true → TV c (.BoolOp .And (b :: rest) pos) ρ σ (.bl s)) : TV c (.BoolOp .And (a :: b :: rest) pos) ρ σ (.bl (r && s)) := ⟨fun {Q E} q => te_and (h.to ⟨r, rfl, fun e => (h2 e).to (by rw [e] at q; exact q), fun e => by rw [e] at q; exact q⟩)⟩
theorem tv_or {r s : Bool} (h : TV c a ρ σ (.bl r)) (h2 : r = false → TV c (.BoolOp .Or (b :: rest) pos) ρ σ (.bl s)) : TV c (.BoolOp .Or (a :: b :: rest) pos) ρ σ (.bl (r || s)) := ⟨fun {Q E} q => te_or (h.to ⟨r, rfl, fun e => (h2 e).to (by rw [e] at q; exact q), fun e => by rw [e] at q; exact q⟩)⟩
theorem te_not (h : TE c a ρ σ (fun d σ1 => ∃ r, d = .bl r ∧ Q (.bl (!r)) σ1) E) : TE c (.UnaryOp .Not a pos) ρ σ Q E := ⟨fun X hX st H K w r xc Q' f => by
  refine cE_of (pe_not cE_pe) ?_
  refine h.run X hX st H K w r xc _ fun v d σ1 H1 K1 s1 w1 r1 ⟨t, e1, q⟩ => ?_
  subst e1
  cases r1
  exact ⟨t, rfl, f _ _ σ1 H1 K1 s1 w1 (.bl _) q⟩⟩
theorem tv_not {r : Bool} (h : TV c a ρ σ (.bl r)) : TV c (.UnaryOp .Not a pos) ρ σ (.bl (!r)) := ⟨fun q => te_not (h.to ⟨r, rfl, q⟩)⟩
/-- a if t else b -/
theorem te_if (h : TT c t ρ σ (fun r σ1 => (r = true → TE c a ρ σ1 Q E) ∧ (r = false → TE c b ρ σ1 Q E)) E) : TE c (.IfExp t a b pos) ρ σ Q E := ⟨fun X hX st H K w r xc Q' f => by
  refine cE_of (pe_ifExp cT_pt cE_pe cE_pe) ?_
  refine h.run X hX st H K w r xc _ fun v d σ1 H1 K1 s1 w1 r1 ⟨h1, h2⟩ => ?_
  subst r1
  cases v with
  | true => exact iteT ((h1 rfl).run X hX st H1 K1 w1 (r.same s1.b) (xc.next s1) _ (Fo.next f s1))
  | false => exact iteF ((h2 rfl).run X hX st H1 K1 w1 (r.same s1.b) (xc.next s1) _ (Fo.next f s1))⟩
theorem tv_if {r : Bool} (h : TB c t ρ σ r) (h1 : r = true → TV c a ρ σ x) (h2 : r = false → TV c b ρ σ y) : TV c (.IfExp t a b pos) ρ σ (if r = true then x else y) := ⟨fun {Q E} q => te_if (h.to ⟨fun e => (h1 e).to (by rw [if_pos e] at q; exact q), fun e => (h2 e).to (by rw [if_neg (by rw [e]; decide)] at q; exact q)⟩)⟩
/-- a < b < d -/
theorem tv_chain {d3 : Expr} {z : DT} {o o' : CmpOp} {r s : Bool} (ha : TV c a ρ σ x) (hb : TV c b ρ σ y) (hd : r = true → TV c d3 ρ σ z) (ho : PO2 c (compareOp o) x y σ (.bl r)) (ho' : r = true → PO2 c (compareOp o') y z σ (.bl s))
    (hm : lastMarks [o, o'] [b, d3] = false := by with_unfolding_all rfl) : TV c (.Compare a [o, o'] [b, d3] pos) ρ σ (.bl (r && s)) := ⟨fun {Q E} q => ⟨fun X hX st H K w rr xc Q' f => by
  refine cE_of (pe_chain cO_or cO_or cE_pe cE_pe cE_pe hm) ?_
  refine (ha.to (Q := fun d σ' => d = x ∧ σ' = σ) ⟨rfl, rfl⟩).run X hX st H K w rr xc _ fun v d1 σ1 H1 K1 s1 w1 r1 ⟨z1, z2⟩ => ?_
  subst z1 z2
  refine (hb.to (Q := fun d σ' => d = y ∧ σ' = σ1) ⟨rfl, rfl⟩).run X hX st H1 K1 w1 (rr.same s1.b) (xc.next s1) _ fun u d2 σ2 H2 K2 s2 w2 r2 ⟨z1, z2⟩ => ?_
  subst z1 z2
  refine ho.run X hX H2 K2 w2 v u (r1.same s2.b) r2 _ fun q1 H3 K3 s3 w3 r3 => ?_
  cases r3
  refine ⟨r, rfl, ?_⟩
  cases r with
  | false => exact iteF (f _ _ _ H3 K3 (s1.trans (s2.trans s3)) w3 (.bl false) q)
  | true =>
    refine iteT ?_
    refine ((hd rfl).to (Q := fun d σ' => d = z ∧ σ' = σ2) ⟨rfl, rfl⟩).run X hX st H3 K3 w3 (rr.same (s1.trans (s2.trans s3)).b) (xc.next (s1.trans (s2.trans s3))) _ fun u3 d3 σ3 H4 K4 s4 w4 r4 ⟨z1, z2⟩ => ?_
    subst z1 z2
    exact (ho' rfl).run X hX H4 K4 w4 u u3 (r2.same (s3.trans s4).b) r4 _ fun q2 H5 K5 s5 w5 r5 => f _ _ _ H5 K5 (s1.trans (s2.trans (s3.trans (s4.trans s5)))) w5 r5 q⟩⟩
end
end Y

/-! Y2: calls, methods, what is walked, comprehensions. -/
namespace Y
open PySem PySem.Spec L2 SX Z
open PyProof.Rows (subscriptTail)
/-! ### calls -/
abbrev TSpec := List DT → Sg → (DT → Sg → Prop) → TX → Prop
def spT (F : PySem.W.Frag) (spec : TSpec) : Sp := fun vs K Q E => ∃ ds H σ Qd Ed, Wd F H σ K ∧ RepA F H vs ds ∧ spec ds σ Qd Ed ∧
  (∀ v d σ' H' K', Gw H σ K H' σ' K' → Wd F H' σ' K' → Rep F H' v d → Qd d σ' → Q v K') ∧ (∀ cls dA x σ' H' K', Gw H σ K H' σ' K' → Wd F H' σ' K' → XRep F H' dA x → Ed cls x σ' → E cls dA K')
/-- a def that keeps its promise -/
def DtQ (hp : HP) (P : Program) (w : World) (F : PySem.W.Frag) (mg : Str → Option Value) (base : Heap) (x : Str) (ps : List Str) (k : Nat) (spec : TSpec) : Prop :=
  ∃ f fd, mg x = some (.ref f) ∧ PySem.W.keepIn F (.ref f) = true ∧ Binds F fd ps [] ∧ FnC hp P w F mg base k f fd ps (spT F spec)
abbrev Dt := DtQ none
section
variable {c : Ct} {ρ : EnvT} {σ : Sg} {Q : DT → Sg → Prop} {QA : List DT → Sg → Prop} {E : TX} {e a b t o : Expr} {es rest : List Expr} {pos p apos : Pos} {d x y : DT} {ds : List DT}
theorem te_own {f : Str} {ps : List Str} {k : Nat} {spec : TSpec} (dt : DtQ c.hp c.P c.w c.K c.mg c.base f ps k spec) (hk : k ≤ c.k) (hg : GlS c f) (h : TA c (a :: es) ρ σ (fun ds σ1 => spec ds σ1 Q E) E) (hdb : (f == ("__debug__" : Str)) = false := by decide)
    (he : ∀ env, starEach (a :: es) env = (false, eval a env) :: starEach es env := by intro _; rfl) (hpl : ∀ pos env, (backTo pos (starEach es env)).any (·.1) = false := by intro _ _; rfl) : TE c (.Call (.Name f p) (a :: es) [] pos) ρ σ Q E := ⟨fun X hX st H K w r xc Q' fo => by
  obtain ⟨fa, fd, hm, kp, hb, F⟩ := dt
  have hX' := hX
  cases hX' with
  | mk _ k' Wx fl hpp hrH hcf hh hp' ht hf hN hU hst =>
    refine cE_of (pe_callC (W := Wx) F (hrH.mono hk) (fun e => (hcf e).2.hd) hh hU hg hm kp hb ht cA_pa hdb (he _) (hpl _ _)) ?_
    refine h.run X hX st H K w r xc _ fun vs ds σ1 H1 K1 s1 w1 r1 q => ?_
    exact ⟨ds, H1, σ1, Q, E, w1, r1, q, fun v d σ' H' K' s => fo v d σ' H' K' (s1.trans s), fun cls dA x σ' H' K' s => xc cls dA x σ' H' K' (s1.trans s)⟩⟩
theorem te_callB {f : Str} {id : String} (hg : GlS c f) (hm : c.mg f = none) (hv : bootBuiltins f = some (.builtin id)) (h : TA c (a :: es) ρ σ (fun ds σ1 => ∃ d, POF c (.builtin id) ds σ1 d ∧ Q d σ1) E) (hn : f ≠ "__name__" := by decide) (hdb : (f == ("__debug__" : Str)) = false := by decide)
    (he : ∀ env, starEach (a :: es) env = (false, eval a env) :: starEach es env := by intro _; rfl) (hpl : ∀ pos env, (backTo pos (starEach es env)).any (·.1) = false := by intro _ _; rfl) : TE c (.Call (.Name f p) (a :: es) [] pos) ρ σ Q E := ⟨fun X hX st H K w r xc Q' fo => by
  have hX' := hX
  cases hX' with
  | mk _ k' Wx fl hpp hrH hcf hh hp' ht hf hN hU hst =>
    refine cE_of (pe_callB cF_cr hg hm hv cA_pa hn hdb (he _) (hpl _ _)) ?_
    refine h.run X hX st H K w r xc _ fun vs ds σ1 H1 K1 s1 w1 r1 ⟨d, h1, q⟩ => ?_
    exact h1.run X hX H1 K1 w1 vs r1 _ fun z H2 K2 s2 w2 r2 => fo z d σ1 H2 K2 (s1.trans s2) w2 r2 q⟩
theorem te_callTy {f : Str} {T : String} (hg : GlS c f) (hm : c.mg f = none) (hv : bootBuiltins f = some (.type T)) (h : TA c (a :: es) ρ σ (fun ds σ1 => ∃ d, POF c (.type T) ds σ1 d ∧ Q d σ1) E) (hn : f ≠ "__name__" := by decide) (hdb : (f == ("__debug__" : Str)) = false := by decide)
    (he : ∀ env, starEach (a :: es) env = (false, eval a env) :: starEach es env := by intro _; rfl) (hpl : ∀ pos env, (backTo pos (starEach es env)).any (·.1) = false := by intro _ _; rfl) : TE c (.Call (.Name f p) (a :: es) [] pos) ρ σ Q E := ⟨fun X hX st H K w r xc Q' fo => by
  have hX' := hX
  cases hX' with
  | mk _ k' Wx fl hpp hrH hcf hh hp' ht hf hN hU hst =>
    refine cE_of (pe_callTy cF_cr hg hm hv cA_pa hn hdb (he _) (hpl _ _)) ?_
    refine h.run X hX st H K w r xc _ fun vs ds σ1 H1 K1 s1 w1 r1 ⟨d, h1, q⟩ => ?_
    exact h1.run X hX H1 K1 w1 vs r1 _ fun z H2 K2 s2 w2 r2 => fo z d σ1 H2 K2 (s1.trans s2) w2 r2 q⟩
theorem tv_callB {f : Str} {id : String} (hg : GlS c f) (hm : c.mg f = none) (hv : bootBuiltins f = some (.builtin id)) (ha : TVA c (a :: es) ρ σ ds) (ho : POF c (.builtin id) ds σ d) (hn : f ≠ "__name__" := by decide) (hdb : (f == ("__debug__" : Str)) = false := by decide)
    (he : ∀ env, starEach (a :: es) env = (false, eval a env) :: starEach es env := by intro _; rfl) (hpl : ∀ pos env, (backTo pos (starEach es env)).any (·.1) = false := by intro _ _; rfl) : TV c (.Call (.Name f p) (a :: es) [] pos) ρ σ d := ⟨fun q => te_callB hg hm hv (ha.to ⟨d, ho, q⟩) hn hdb he hpl⟩
theorem tv_callTy {f : Str} {T : String} (hg : GlS c f) (hm : c.mg f = none) (hv : bootBuiltins f = some (.type T)) (ha : TVA c (a :: es) ρ σ ds) (ho : POF c (.type T) ds σ d) (hn : f ≠ "__name__" := by decide) (hdb : (f == ("__debug__" : Str)) = false := by decide)
    (he : ∀ env, starEach (a :: es) env = (false, eval a env) :: starEach es env := by intro _; rfl) (hpl : ∀ pos env, (backTo pos (starEach es env)).any (·.1) = false := by intro _ _; rfl) : TV c (.Call (.Name f p) (a :: es) [] pos) ρ σ d := ⟨fun q => te_callTy hg hm hv (ha.to ⟨d, ho, q⟩) hn hdb he hpl⟩
/-- a def whose promise is a value of the arguments -/
theorem tv_own {f : Str} {ps : List Str} {k : Nat} {spec : TSpec} (dt : DtQ c.hp c.P c.w c.K c.mg c.base f ps k spec) (hk : k ≤ c.k) (hg : GlS c f) (ha : TVA c (a :: es) ρ σ ds) (hs : ∀ {Q : DT → Sg → Prop} {E : TX}, Q d σ → spec ds σ Q E) (hdb : (f == ("__debug__" : Str)) = false := by decide)
    (he : ∀ env, starEach (a :: es) env = (false, eval a env) :: starEach es env := by intro _; rfl) (hpl : ∀ pos env, (backTo pos (starEach es env)).any (·.1) = false := by intro _ _; rfl) : TV c (.Call (.Name f p) (a :: es) [] pos) ρ σ d := ⟨fun {Q E} q => te_own dt hk hg (ha.to (hs q)) hdb he hpl⟩
/-! methods of built-in types -/
/-- d is of the built-in type T -/
def TyIs (c : Ct) (T : String) (σ : Sg) (d : DT) : Prop := ∀ X, Con c X → ∀ H K, Wd c.K H σ K → ∀ x, Rep c.K H x d → ∀ pins st s v, Inv X pins st K s → RelV x v → s.TypeIs v T ∧ ∀ a, v = .ref a → ∃ ob, s.heap.get? a = some ob ∧ ob.dict = none
theorem te_meth {name : Str} {T id : String} (pa : PlainAttrs T) (slot : Slot T name id) (hty : typeOf (.builtin id) = pure (.type "method_descriptor"))
    (h : TE c o ρ σ (fun x σ1 => TyIs c T σ1 x ∧ TA c (a :: es) ρ σ1 (fun xs σ2 => TOM c id x xs σ2 Q) E) E)
    (hbase : ∀ env, attributeBase o name env (eval o env) = eval o env := by intro _; rfl)
    (hfew : ∀ env, ((backTo pos (starEach (a :: es) env)).all (fun x => !x.1) && (backToKw pos (keywordEach [] env)).all (fun x => x.1.isSome)
      && decide ((a :: es).length + ([] : List Keyword).length + (if ([] : List Keyword).isEmpty then 0 else 1) < 30)) = true := by intro _; rfl)
    (hline : (apos.endLine == pos.line) = true := by rfl) (he : ∀ env, starEach (a :: es) env = (false, eval a env) :: starEach es env := by intro _; rfl) (hpl : ∀ pos env, (backTo pos (starEach es env)).any (·.1) = false := by intro _ _; rfl) :
    TE c (.Call (.Attribute o name apos) (a :: es) [] pos) ρ σ Q E := ⟨fun X hX st H K w r xc Q' fo => fun pins s I => by
  have hX' := hX
  cases hX' with
  | mk _ k' Wx fl hpp hrH hcf hh hp' ht hf hN hU hst =>
    refine wpAny_Call_method_late (hbase _) (hfew _) hline rfl (thn (h.run X hX st H K w r xc (fun v K1 => ∃ x σ1 H1, Gw H σ K H1 σ1 K1 ∧ Wd X.K H1 σ1 K1 ∧ Rep X.K H1 v x ∧ TyIs ⟨X.prog, X.w, X.K, X.mg, X.base, X.N, X.env.scope, k', Wx, fl, hpp⟩ T σ1 x ∧ TA ⟨X.prog, X.w, X.K, X.mg, X.base, X.N, X.env.scope, k', Wx, fl, hpp⟩ (a :: es) ρ σ1 (fun xs σ2 => TOM ⟨X.prog, X.w, X.K, X.mg, X.base, X.N, X.env.scope, k', Wx, fl, hpp⟩ id x xs σ2 Q) E)
      (fun v x σ1 H1 K1 s1 w1 r1 ⟨q1, q2⟩ => ⟨x, σ1, H1, s1, w1, r1, q1, q2⟩) pins s I) fun u s1 ⟨v, K1, I1, rv, x, σ1, H1, sa, w1, r1, q1, q2⟩ => ?_)
    obtain ⟨h1, h2⟩ := q1 X hX H1 K1 w1 v r1 pins st s1 u I1 rv
    refine ⟨T, id, pa, slot, hty, h1, h2, ?_⟩
    have hA := q2.run X hX st H1 K1 w1 (r.same sa.b) (xc.next sa) (fun vs K2 => ∃ xs σ2 H2, Gw H1 σ1 K1 H2 σ2 K2 ∧ Wd X.K H2 σ2 K2 ∧ RepA X.K H2 vs xs ∧ TOM ⟨X.prog, X.w, X.K, X.mg, X.base, X.N, X.env.scope, k', Wx, fl, hpp⟩ id x xs σ2 Q) (fun vs xs σ2 H2 K2 s2 w2 r2 q => ⟨xs, σ2, H2, s2, w2, r2, q⟩) pos pins s1 I1
    rw [he] at hA ⊢
    refine Calls.callWith_builtin (by show (false || (backTo pos (starEach es X.env)).any (·.1)) = false; rw [hpl] <;> rfl) (Calls.evalArgs_plain ?_)
    refine thn hA fun us s2 ⟨vs, K2, I2, rvs, xs, σ2, H2, sb, w2, r2, q⟩ => ?_
    exact q.run X hX H2 K2 w2 v vs (r1.same sb.b) r2 Q' (fun z dz σ3 H3 K3 s3 => fo z dz σ3 H3 K3 (sa.trans (sb.trans s3))) pins s2 st u us I2 rv rvs⟩
/-- a method that changes nothing -/
structure POM (c : Ct) (id : String) (x : DT) (xs : List DT) (σ : Sg) (d : DT) : Prop where
  to : ∀ {Q : DT → Sg → Prop}, Q d σ → TOM c id x xs σ Q
theorem tv_meth {name : Str} {T id : String} (pa : PlainAttrs T) (slot : Slot T name id) (hty : typeOf (.builtin id) = pure (.type "method_descriptor")) (ho : TV c o ρ σ x) (ty : TyIs c T σ x) (ha : TVA c (a :: es) ρ σ ds) (hm : POM c id x ds σ d)
    (hbase : ∀ env, attributeBase o name env (eval o env) = eval o env := by intro _; rfl)
    (hfew : ∀ env, ((backTo pos (starEach (a :: es) env)).all (fun x => !x.1) && (backToKw pos (keywordEach [] env)).all (fun x => x.1.isSome)
      && decide ((a :: es).length + ([] : List Keyword).length + (if ([] : List Keyword).isEmpty then 0 else 1) < 30)) = true := by intro _; rfl)
    (hline : (apos.endLine == pos.line) = true := by rfl) (he : ∀ env, starEach (a :: es) env = (false, eval a env) :: starEach es env := by intro _; rfl) (hpl : ∀ pos env, (backTo pos (starEach es env)).any (·.1) = false := by intro _ _; rfl) :
    TV c (.Call (.Attribute o name apos) (a :: es) [] pos) ρ σ d := ⟨fun q => te_meth pa slot hty (ho.to ⟨ty, ha.to (hm.to q)⟩) hbase hfew hline he hpl⟩
end

/-! ### what is walked -/
/-- what is walked while an exception is handled -/
def cPH (X : Cx) (tg iter : Expr) : L2.TI := fun st K R => ∃ wi, L2H.PIH X tg iter wi ∧ wi st K R
theorem cPH_pi {X : Cx} {tg iter : Expr} : L2H.PIH X tg iter (cPH X tg iter) := ⟨fun pins s _ _ _ I ⟨_, h, q⟩ => h.run pins s _ _ _ I q⟩
theorem cPH_of {X : Cx} {tg iter : Expr} {t : L2.TI} {st : L2.St} {K : Hp} {R : It → Hp → Prop} (h : L2H.PIH X tg iter t) (q : t st K R) : cPH X tg iter st K R := ⟨t, h, q⟩
def cPQ (hp : HP) (X : Cx) (tg iter : Expr) : L2.TI := match hp with
  | none => cP X tg iter
  | some _ => cPH X tg iter
theorem cPQ_of {hp : HP} {X : Cx} {tg iter : Expr} {t : L2.TI} {st : L2.St} {K : Hp} {R : It → Hp → Prop} (h0 : PI X tg iter t) (h1 : L2H.PIH X tg iter t) (q : t st K R) : cPQ hp X tg iter st K R := by
  cases hp with
  | none => exact cP_of h0 q
  | some p => exact cPH_of h1 q
/-- iter is walked, its items are ds -/
structure TI (c : Ct) (tg iter : Expr) (ρ : EnvT) (σ : Sg) (Q : List DT → Sg → Prop) (E : TX) : Prop where
  run : ∀ X, Con c X → ∀ st H K, Wd c.K H σ K → REnv c.K H ρ st → XC c H σ K st E → ∀ R : It → Hp → Prop,
    (∀ ds σ1 Jt G Yh H1 K1, Gw H σ K H1 σ1 K1 → Wd c.K H1 σ1 K1 → Q ds σ1 → Walk Jt ds.length G Yh → (∀ H' σ' K', Same H1 H' → Wd c.K H' σ' K' → G K') →
      (∀ i v H' σ' Ka Kb, i < ds.length → Same H1 H' → Wd c.K H' σ' Ka → Yh i Ka v Kb → ∃ H2 d, ds[i]? = some d ∧ Gw H' σ' Ka H2 σ' Kb ∧ Wd c.K H2 σ' Kb ∧ Rep c.K H2 v d ∧ ∀ a o, Ka a = some o → Kb a = some o) → R Jt K1) → cPQ c.hp X tg iter st K R
structure TVI (c : Ct) (tg iter : Expr) (ρ : EnvT) (σ : Sg) (ds : List DT) : Prop where
  to : ∀ {Q : List DT → Sg → Prop} {E : TX}, Q ds σ → TI c tg iter ρ σ Q E
section
variable {c : Ct} {ρ : EnvT} {σ : Sg} {QA : List DT → Sg → Prop} {E : TX} {tg e a b : Expr} {pos p : Pos} {ds : List DT}
theorem ti_lst (h : TE c e ρ σ (fun d σ1 => ∃ ds, d = .lst ds ∧ QA ds σ1) E) : TI c tg e ρ σ QA E := ⟨fun X hX st H K w r xc R q => by
  have hX' := hX
  cases hX' with
  | mk _ k' Wx fl hpp hrH hcf hh hp' ht hf hN hU hst =>
  have go : ∀ R', iList X.K (cE X e) st K R' → cPQ hpp X tg e st K R' := fun R' z => by
    cases hpp with
    | none => exact cP_of (pi_list cE_pe) z
    | some p => exact cPH_of (HotX.pi_listH cE_pe) z
  refine go _ ?_
  refine h.run X hX st H K w r xc _ fun v d σ1 H1 K1 s1 w1 r1 ⟨ds, e1, h1⟩ => ?_
  subst e1
  cases r1 with
  | lst hs ra =>
    rename_i a vs
    have hs := SqL.of (K := X.K) hs
    refine ⟨a, rfl, ⟨vs, same_sql w1.le hs⟩, q ds σ1 _ _ _ H1 K1 s1 w1 h1 (ra.length ▸ walk_list) (fun H' σ' K' s2 w2 => same_sql w2.le (same_sql s2 hs)) fun i v H' σ' Ka Kb hi s2 w2 y => ?_⟩
    obtain ⟨rfl, hv⟩ := y
    obtain ⟨d, e2, rd⟩ := ra.get' hv
    exact ⟨H', d, e2, Gw.refl, w2, rd.same s2, fun _ _ z => z⟩⟩
theorem ti_seq [Calm c] (h : TE c e ρ σ (fun d σ1 => ∃ ds, d = .seq ds ∧ QA ds σ1) E) : TI c tg e ρ σ QA E := ⟨fun X hX st H K w r xc R q => by
  have hX' := hX
  cases hX' with
  | mk _ k' Wx fl hpp hrH hcf hh hp' ht hf hN hU hst =>
  obtain rfl : hpp = none := ‹Calm _›.h
  refine cP_of (pi_list cE_pe) ?_
  refine h.run X hX st H K w r xc _ fun v d σ1 H1 K1 s1 w1 r1 ⟨ds, e1, h1⟩ => ?_
  subst e1
  cases r1 with
  | seq hs ra =>
    rename_i a vs
    refine ⟨a, rfl, ⟨vs, same_sql w1.le hs⟩, q ds σ1 _ _ _ H1 K1 s1 w1 h1 (ra.length ▸ walk_list) (fun H' σ' K' s2 w2 => same_sql w2.le (same_sql s2 hs)) fun i v H' σ' Ka Kb hi s2 w2 y => ?_⟩
    obtain ⟨rfl, hv⟩ := y
    obtain ⟨d, e2, rd⟩ := ra.get' hv
    exact ⟨H', d, e2, Gw.refl, w2, rd.same s2, fun _ _ z => z⟩⟩
theorem ti_tup [Calm c] (h : TE c e ρ σ (fun d σ1 => ∃ ds, d = .tup ds ∧ QA ds σ1) E) : TI c tg e ρ σ QA E := ⟨fun X hX st H K w r xc R q => by
  have hX' := hX
  cases hX' with
  | mk _ k' Wx fl hpp hrH hcf hh hp' ht hf hN hU hst =>
  obtain rfl : hpp = none := ‹Calm _›.h
  refine cP_of (pi_tup cE_pe) ?_
  refine h.run X hX st H K w r xc _ fun v d σ1 H1 K1 s1 w1 r1 ⟨ds, e1, h1⟩ => ?_
  subst e1
  cases r1 with
  | tup hs ra =>
    rename_i a vs
    refine ⟨a, rfl, ⟨vs, same_sqt w1.le hs⟩, q ds σ1 _ _ _ H1 K1 s1 w1 h1 (ra.length ▸ walk_tup) (fun H' σ' K' s2 w2 => same_sqt w2.le (same_sqt s2 hs)) fun i v H' σ' Ka Kb hi s2 w2 y => ?_⟩
    obtain ⟨rfl, hv⟩ := y
    obtain ⟨d, e2, rd⟩ := ra.get' hv
    exact ⟨H', d, e2, Gw.refl, w2, rd.same s2, fun _ _ z => z⟩⟩
theorem ti_str [Calm c] (h : TE c e ρ σ (fun d σ1 => ∃ l, d = .str l ∧ QA (l.map fun k => .str [k]) σ1) E) : TI c tg e ρ σ QA E := ⟨fun X hX st H K w r xc R q => by
  have hX' := hX
  cases hX' with
  | mk _ k' Wx fl hpp hrH hcf hh hp' ht hf hN hU hst =>
  obtain rfl : hpp = none := ‹Calm _›.h
  refine cP_of (pi_str cE_pe) ?_
  refine h.run X hX st H K w r xc _ fun v d σ1 H1 K1 s1 w1 r1 ⟨l, e1, h1⟩ => ?_
  subst e1
  cases r1
  have hl : (S l).cps.size = (l.map fun k => DT.str [k]).length := by simp [S]
  refine ⟨S l, rfl, q _ σ1 _ _ _ H1 K1 s1 w1 h1 (hl ▸ walk_str) (fun _ _ _ _ _ => trivial) fun i v H' σ' Ka Kb hi s2 w2 y => ?_⟩
  obtain ⟨rfl, k, hk, rfl⟩ := y
  have hk' : l[i]? = some k := by simpa [S] using hk
  exact ⟨H', .str [k], by rw [List.getElem?_map, hk']; rfl, Gw.refl, w2, .str [k], fun _ _ z => z⟩⟩
theorem ti_range1 (hg : GlS c "range") (hm : c.mg "range" = none) (h : TE c a ρ σ (fun d σ1 => ∃ n : Int, d = .int n ∧ (-(2 ^ 62) ≤ n ∧ n < 2 ^ 62) ∧ QA ((List.range n.toNat).map fun i : Nat => DT.int (i : Int)) σ1) E)
    (hs : ∀ env, starEach [a] env = [(false, eval a env)] := by intro _; rfl) : TI c tg (.Call (.Name "range" p) [a] [] pos) ρ σ QA E := ⟨fun X hX st H K w r xc R q => by
  have hX' := hX
  cases hX' with
  | mk _ k' Wx fl hpp hrH hcf hh hp' ht hf hN hU hst =>
  refine cPQ_of (pi_range1 hg hm (pa_cons cE_pe pa_nil (hs _)) (hs _)) (L2H.pi_range1H hg hm (pa_cons cE_pe pa_nil (hs _)) (hs _)) ?_
  refine h.run X hX st H K w r xc _ fun v d σ1 H1 K1 s1 w1 r1 ⟨n, e1, hn, h1⟩ => ?_
  subst e1
  cases r1
  have hl : n.toNat = ((List.range n.toNat).map fun i : Nat => DT.int (i : Int)).length := by simp
  refine ⟨n, rfl, hn.1, hn.2, q _ σ1 _ (fun _ => True) (YFn fun i => .int (0 + i)) H1 K1 s1 w1 h1 (by rw [← hl]; exact walk_range) (fun _ _ _ _ _ => trivial) fun i v H' σ' Ka Kb hi s2 w2 y => ?_⟩
  obtain ⟨rfl, rfl⟩ := y
  rw [← hl] at hi
  exact ⟨H', .int (i : Int), by simp [hi], Gw.refl, w2, (by show Rep X.K H' (V.int (0 + (i : Int))) (DT.int (i : Int)); rw [Int.zero_add]; exact .int _), fun _ _ z => z⟩⟩
theorem ti_range2 [Calm c] (hg : GlS c "range") (hm : c.mg "range" = none) (h : TE c a ρ σ (fun d σ1 => TE c b ρ σ1 (fun d2 σ2 => ∃ m n : Int, d = .int m ∧ d2 = .int n ∧ (-(2 ^ 62) ≤ m ∧ m < 2 ^ 62 ∧ -(2 ^ 62) ≤ n ∧ n < 2 ^ 62) ∧ QA ((List.range (n - m).toNat).map fun i : Nat => DT.int (m + (i : Int))) σ2) E) E)
    (hs : ∀ env, starEach [a, b] env = [(false, eval a env), (false, eval b env)] := by intro _; rfl) (hs2 : ∀ env, starEach [b] env = [(false, eval b env)] := by intro _; rfl) : TI c tg (.Call (.Name "range" p) [a, b] [] pos) ρ σ QA E := ⟨fun X hX st H K w r xc R q => by
  have hX' := hX
  cases hX' with
  | mk _ k' Wx fl hpp hrH hcf hh hp' ht hf hN hU hst =>
  obtain rfl : hpp = none := ‹Calm _›.h
  refine cP_of (pi_range2 hg hm (pa_cons cE_pe (pa_cons cE_pe pa_nil (hs2 _)) (by rw [hs, hs2])) (hs _) (hs2 _)) ?_
  refine h.run X hX st H K w r xc _ fun v d σ1 H1 K1 s1 w1 r1 h1 => ?_
  refine h1.run X hX st H1 K1 w1 (r.same s1.b) (xc.next s1) _ fun v2 d2 σ2 H2 K2 s2 w2 r2 ⟨m, n, e1, e2, hn, h2⟩ => ?_
  subst e1 e2
  cases r1
  cases r2
  have hl : (n - m).toNat = ((List.range (n - m).toNat).map fun i : Nat => DT.int (m + (i : Int))).length := by simp
  refine ⟨m, n, rfl, hn, q _ σ2 _ (fun _ => True) (YFn fun i => .int (m + i)) H2 K2 (s1.trans s2) w2 h2 (by rw [← hl]; exact walk_range) (fun _ _ _ _ _ => trivial) fun i v H' σ' Ka Kb hi s2 w2 y => ?_⟩
  obtain ⟨rfl, rfl⟩ := y
  rw [← hl] at hi
  exact ⟨H', .int (m + (i : Int)), by simp [hi], Gw.refl, w2, .int _, fun _ _ z => z⟩⟩
/-- a new pair -/
theorem pair_new {F : PySem.W.Frag} {H K : Hp} {σ : Sg} {T : Addr} {x y : V} {dx dy : DT} (w : Wd F H σ K) (h : K T = none) (rx : Rep F H x dx) (ry : Rep F H y dy) :
    ∃ H2, Gw H σ K H2 σ (upd K T (.tup [x, y])) ∧ Wd F H2 σ (upd K T (.tup [x, y])) ∧ Rep F H2 (.ref T) (.tup [dx, dy]) ∧ ∀ a o, K a = some o → (upd K T (.tup [x, y])) a = some o := by
  obtain ⟨s, w'⟩ := w.new (o := .tup [x, y]) h
  exact ⟨_, s, w', .tup (SqT.of upd_same) (.cons (rx.same s.b) (.cons (ry.same s.b) .nil)), fun a o e => by rw [upd_ne (ne_of_none e h)]; exact e⟩
theorem ti_zip [Calm c] {elts : List Expr} {kk : Nat} {tpos : Pos} (hg : GlS c "zip") (hm : c.mg "zip" = none) (h : TE c a ρ σ (fun d σ1 => TE c b ρ σ1 (fun d2 σ2 => ∃ ds es, d = .lst ds ∧ d2 = .lst es ∧ QA ((ds.zip es).map fun x => .tup [x.1, x.2]) σ2) E) E)
    (hs : ∀ env, starEach [a, b] env = [(false, eval a env), (false, eval b env)] := by intro _; rfl) (hs2 : ∀ env, starEach [b] env = [(false, eval b env)] := by intro _; rfl) : TI c (.Tuple elts kk tpos) (.Call (.Name "zip" p) [a, b] [] pos) ρ σ QA E := ⟨fun X hX st H K w r xc R q => by
  have hX' := hX
  cases hX' with
  | mk _ k' Wx fl hpp hrH hcf hh hp' ht hf hN hU hst =>
  obtain rfl : hpp = none := ‹Calm _›.h
  refine cP_of (pi_zip hg hm (pa_cons cE_pe (pa_cons cE_pe pa_nil (hs2 _)) (by rw [hs, hs2])) (by rw [hs, hs2]) (by rw [hs2]; rfl)) ?_
  refine h.run X hX st H K w r xc _ fun v d σ1 H1 K1 s1 w1 r1 h1 => ?_
  refine h1.run X hX st H1 K1 w1 (r.same s1.b) (xc.next s1) _ fun v2 d2 σ2 H2 K2 s2 w2 r2 ⟨ds, es, e1, e2, h2⟩ => ?_
  subst e1 e2
  cases r1 with
  | lst hsq ra =>
    rename_i a1 vs
    cases r2 with
    | lst hsq2 ra2 =>
      rename_i a2 us
      have hsq := SqL.of (K := X.K) hsq
      have hsq2 := SqL.of (K := X.K) hsq2
      have hl : min vs.length us.length = ((ds.zip es).map fun x => DT.tup [x.1, x.2]).length := by simp [ra.length, ra2.length]
      refine ⟨a1, a2, vs, us, rfl, same_sql w2.le (same_sql s2.b hsq), same_sql w2.le hsq2, q _ σ2 _ _ _ H2 K2 (s1.trans s2) w2 h2 (walk_zip hl.symm) (fun H' σ' K' s3 w3 => ⟨same_sql w3.le (same_sql (s2.b.trans s3) hsq), same_sql w3.le (same_sql s3 hsq2)⟩) fun i v H' σ' Ka Kb hi s3 w3 y => ?_⟩
      obtain ⟨T, x, y, rfl, h3, rfl, h4, h5⟩ := y
      obtain ⟨d, e2, rd⟩ := ra.get' h4
      obtain ⟨d2, e3, rd2⟩ := ra2.get' h5
      obtain ⟨H3, s4, w4, r4, k4⟩ := pair_new w3 h3 (rd.same (s2.b.trans s3)) (rd2.same s3)
      exact ⟨H3, _, by rw [List.getElem?_map, (List.getElem?_zip_eq_some (z := (d, d2))).mpr ⟨e2, e3⟩]; exact rfl, s4, w4, r4, k4⟩⟩
theorem RepK.get' {F : PySem.W.Frag} {H : Hp} : ∀ {v : List (Key × V)} {d : List (DK × DT)} {i : Nat} {k : Key} {u : V}, RepK F H v d → v[i]? = some (k, u) → ∃ k' x, d[i]? = some (k', x) ∧ k = keyD k' ∧ Rep F H u x
  | _, _, _, _, _, .nil, e => by simp at e
  | _, _, 0, _, _, .cons r _, e => by simp at e; obtain ⟨rfl, rfl⟩ := e; exact ⟨_, _, rfl, rfl, r⟩
  | _, _, i + 1, _, _, .cons _ t, e => by
    obtain ⟨k', x, h1, h2⟩ := RepK.get' t (by simpa using e)
    exact ⟨k', x, by simpa using h1, h2⟩
theorem tvi_lst (h : TV c e ρ σ (.lst ds)) : TVI c tg e ρ σ ds := ⟨fun q => ti_lst (h.to ⟨ds, rfl, q⟩)⟩
theorem tvi_tup [Calm c] (h : TV c e ρ σ (.tup ds)) : TVI c tg e ρ σ ds := ⟨fun q => ti_tup (h.to ⟨ds, rfl, q⟩)⟩
theorem tvi_str [Calm c] {l : List Nat} (h : TV c e ρ σ (.str l)) : TVI c tg e ρ σ (l.map fun k => .str [k]) := ⟨fun q => ti_str (h.to ⟨l, rfl, q⟩)⟩
end
end Y

/-! Y3: targets, comprehensions. -/
namespace Y
open PySem PySem.Spec L2 SX Z
open PyProof.Rows (subscriptTail)
/-! ### targets: one name, several names -/
inductive TgS where | nm (j : Nat) | tp (js : List Nat)
def TgS.slots : TgS → List Nat
  | .nm j => [j]
  | .tp js => js
def TgOk (c : Ct) (tg : Expr) : TgS → Prop
  | .nm j => IsN c tg j
  | .tp js => ∃ es k pos, tg = .Tuple es k pos ∧ IsNs c es js
def gOf (F : PySem.W.Frag) : TgS → TG
  | .nm j => gName j
  | .tp js => gTup F js.length (gNs js)
theorem tg_pg {c : Ct} {tg : Expr} {t : TgS} (h : TgOk c tg t) {X : Cx} (hX : Con c X) : PG X tg (gOf c.K t) := by
  cases t with
  | nm j => exact isN_pg h hX
  | tp js =>
    obtain ⟨es, k, pos, rfl, h⟩ := h
    obtain ⟨q1, q2, q3⟩ := pgs_names hX h
    cases hX with
    | mk _ k' Wx fa hpp hrH hcf hh hp' ht hf hN hU hst => exact pg_tupQ (fun e => (hcf e).1) hh q1 q2 q3
def setT (ρ : EnvT) : List Nat → List DT → EnvT
  | j :: js, x :: xs => setT (ρ.set j (some x)) js xs
  | _, _ => ρ
def stT : TgS → DT → EnvT → Option EnvT
  | .nm j, d, ρ => some (ρ.set j (some d))
  | .tp js, .tup ds, ρ => if ds.length = js.length then some (setT ρ js ds) else none
  | _, _, _ => none
theorem REnv.setAll {F : PySem.W.Frag} {H : Hp} : ∀ {js : List Nat} {vs : List V} {ds : List DT} {ρ : EnvT} {st : L2.St}, REnv F H ρ st → RepA F H vs ds → REnv F H (setT ρ js ds) (Z.setAll st js vs)
  | [], _, _, _, _, r, _ => by unfold setT Z.setAll; exact r
  | _ :: _, _, _, _, _, r, .nil => by unfold setT Z.setAll; exact r
  | j :: js, _, _, _, _, r, .cons h t => REnv.setAll (js := js) (r.set h j) t
theorem g_of {F : PySem.W.Frag} {H K : Hp} {σ : Sg} {t : TgS} {v : V} {d : DT} {ρ ρ' : EnvT} {st : L2.St} {Q : L2.St → Hp → Prop} (w : Wd F H σ K) (rv : Rep F H v d) (r : REnv F H ρ st) (h : stT t d ρ = some ρ') (q : ∀ st', REnv F H ρ' st' → (∀ vs, (∀ j ∈ t.slots, j ∈ vs) → L2.wipe st' vs = L2.wipe st vs) → Q st' K) : gOf F t v st K Q := by
  have wset : ∀ (vs : List Nat) (st : L2.St) (j : Nat) (x : Option V), j ∈ vs → L2.wipe (st.set j x) vs = L2.wipe st vs := by
    intro vs
    induction vs with
    | nil => intro _ _ _ h; cases h
    | cons a r ih =>
      intro st j x hj
      show (L2.wipe (st.set j x) r).set a none = (L2.wipe st r).set a none
      by_cases hr : j ∈ r
      · rw [ih st j x hr]
      · have e : j = a := (List.mem_cons.mp hj).resolve_right hr
        subst e
        have : ∀ (r : List Nat), j ∉ r → L2.wipe (st.set j x) r = (L2.wipe st r).set j x := by
          intro r
          induction r with
          | nil => intro _; rfl
          | cons b r ih2 =>
            intro hb
            show (L2.wipe (st.set j x) r).set b none = ((L2.wipe st r).set b none).set j x
            rw [ih2 (fun z => hb (List.mem_cons_of_mem _ z)), List.set_comm _ _ (fun z : j = b => hb (z ▸ List.mem_cons_self))]
        rw [this r hr, List.set_set]
  cases t with
  | nm j =>
    cases h
    exact q _ (r.set rv j) fun vs hs => wset vs st j _ (hs j List.mem_cons_self)
  | tp js =>
    cases rv with
    | tup hs ra =>
      rename_i a vs ds
      have h : (if ds.length = js.length then some (setT ρ js ds) else none) = some ρ' := h
      by_cases hl : ds.length = js.length
      · rw [if_pos hl] at h
        cases h
        have hl2 : vs.length = js.length := ra.length.trans hl
        refine ⟨a, vs, rfl, same_sqt w.le hs, hl2, gNs_of js vs st hl2 (q _ (r.setAll ra) ?_)⟩
        intro ws hsub
        have : ∀ (js : List Nat) (vs : List V) (st : L2.St), (∀ j ∈ js, j ∈ ws) → L2.wipe (Z.setAll st js vs) ws = L2.wipe st ws := by
          intro js
          induction js with
          | nil => intro vs st _; unfold Z.setAll; rfl
          | cons j js ih =>
            intro vs st h
            cases vs with
            | nil => unfold Z.setAll; rfl
            | cons x xs =>
              show L2.wipe (Z.setAll (st.set j (some x)) js xs) ws = _
              rw [ih xs _ (fun k hk => h k (List.mem_cons_of_mem _ hk)), wset ws st j _ (h j List.mem_cons_self)]
        exact this js vs st hsub
      · rw [if_neg hl] at h
        cases h
    | _ => cases h
theorem wipe_wipe : ∀ (vs : List Nat) (st : L2.St), L2.wipe (L2.wipe st vs) vs = L2.wipe st vs := by
  have wset : ∀ (vs : List Nat) (st : L2.St) (j : Nat), j ∉ vs → L2.wipe (st.set j none) vs = (L2.wipe st vs).set j none := by
    intro vs
    induction vs with
    | nil => intro _ _ _; rfl
    | cons b r ih2 =>
      intro st j hb
      show (L2.wipe (st.set j none) r).set b none = ((L2.wipe st r).set b none).set j none
      rw [ih2 st j (fun z => hb (List.mem_cons_of_mem _ z)), List.set_comm _ _ (fun z : j = b => hb (z ▸ List.mem_cons_self))]
  have wset2 : ∀ (vs : List Nat) (st : L2.St) (j : Nat), j ∈ vs → L2.wipe (st.set j none) vs = L2.wipe st vs := by
    intro vs
    induction vs with
    | nil => intro _ _ h; cases h
    | cons a r ih =>
      intro st j hj
      show (L2.wipe (st.set j none) r).set a none = (L2.wipe st r).set a none
      by_cases hr : j ∈ r
      · rw [ih st j hr]
      · have e : j = a := (List.mem_cons.mp hj).resolve_right hr
        subst e
        rw [wset r st j hr, List.set_set]
  intro vs
  induction vs with
  | nil => intro st; rfl
  | cons a r ih =>
    intro st
    show (L2.wipe ((L2.wipe st r).set a none) r).set a none = (L2.wipe st r).set a none
    by_cases hr : a ∈ r
    · rw [wset2 r _ a hr, ih]
    · rw [wset r _ a hr, ih, List.set_set]

/-! ### dict entries -/
theorem Gw.touch {H H' K K' : Hp} {σ σ' : Sg} {D : Addr} {o : HO} (g : Gw H σ K H' σ' K') (h : K D = none) : Gw H σ K H' σ' (upd K' D o) := ⟨g.b, fun a u h1 h2 => by rw [upd_ne (ne_of_none h2 h)]; exact g.k a u h1 h2, g.n, g.f⟩
theorem Wd.touch {F : PySem.W.Frag} {H K : Hp} {σ : Sg} {D : Addr} {o u : HO} (w : Wd F H σ K) (hH : H D = none) (hs : σ D = none) (e : K D = some u) (hu : ∀ a, u ≠ .own a) : Wd F H σ (upd K D o) := by
  refine ⟨fun a v h => by rw [upd_ne (ne_of_none h hH)]; exact w.le a v h, w.off, fun q c h => (w.on q c h).stay (Same.refl H) fun a v h2 e2 => ?_⟩
  have ne : a ≠ D := fun z => by
    rcases h2 with h2 | h2
    · rw [← h2, z, hs] at h; cases h
    · subst h2
      rw [z, e] at e2
      exact hu _ (Option.some.inj e2)
  rw [upd_ne ne]
  exact e2
theorem Gw.add {H H' K K' : Hp} {σ σ' : Sg} {D : Addr} {c : Cell} (g : Gw H σ K H' σ' K') (h : K D = none) : Gw H σ K H' (su σ' D c) K' := ⟨g.b, g.k, fun a h1 h2 => by
  by_cases z : a = D
  · rw [z]; exact h
  · rw [su_ne z] at h2; exact g.n a h1 h2, g.f⟩
/-- an object of no one's stays, and stays no one's -/
theorem Gw.hid {H H2 K K2 : Hp} {σ σ2 : Sg} {D : Addr} {o : HO} (g : Gw H σ K H2 σ2 K2) (e : K D = some o) (no : ∀ a, o ≠ .own a) (n : σ D = none) (hn : H D = none) : K2 D = some o ∧ σ2 D = none ∧ H2 D = none := by
  refine ⟨g.k D _ n e, ?_, ?_⟩
  · cases q : σ2 D with
    | none => rfl
    | some c =>
      have := g.n D n (by rw [q]; exact Option.some_ne_none _)
      rw [e] at this
      cases this
  · cases q : H2 D with
    | none => rfl
    | some u =>
      rcases g.f D hn (by rw [q]; exact Option.some_ne_none _) n with z | ⟨p, z⟩
      · rw [e] at z; cases z
      · rw [e] at z; exact absurd (Option.some.inj z) (no p)
/-! ### comprehensions -/
/-- a turn: the test, the element -/
def LcT (c : Ct) (ifs : List Expr) (elt : Expr) (ρ : EnvT) (σ : Sg) (yes : DT → Sg → Prop) (no : Sg → Prop) : Prop :=
  match ifs with
  | [] => TE c elt ρ σ yes TX0
  | [a] => TT c a ρ σ (fun b σ1 => (b = true → TE c elt ρ σ1 yes TX0) ∧ (b = false → no σ1)) TX0
  | _ => False
section
variable {c : Ct} {ρ : EnvT} {σ : Sg} {Q : DT → Sg → Prop} {E : TX} {tg iter elt kx vx : Expr} {ifs : List Expr} {scope : Scope} {pos : Pos} {own : List (Str × Nat)} {t : TgS}
theorem xblk {H K : Hp} {σ : Sg} {st : L2.St} : XC (c.blk scope) H σ K st TX0 := fun _ _ _ _ _ _ _ _ _ z => z.elim
/-- the reading of a list comprehension: the new list is a cell -/
theorem lc_runT {X : Cx} (hX : Con c X) {st : L2.St} {H K : Hp} (w : Wd c.K H σ K) (r : REnv c.K H ρ st) (xc : XC c H σ K st E) {Q' : VK} (fo : Fo c (Rep c.K) H σ K Q Q') (hsub : ∀ j ∈ t.slots, j ∈ own.map (·.2))
    (hi : TI c tg iter ρ σ (fun ds σ1 => ds.length ≤ 1000000 ∧ ∃ I : Nat → List DT → Sg → Prop, I 0 [] σ1 ∧
      (∀ i d acc σ2, ds[i]? = some d → I i acc σ2 → ∃ ρ', stT t d (wipeT ρ (own.map (·.2))) = some ρ' ∧ LcT (c.blk scope) ifs elt ρ' σ2 (fun y σ3 => I (i + 1) (acc ++ [y]) σ3) (I (i + 1) acc)) ∧
      (∀ D acc σ2, σ2 D = none → acc.length ≤ ds.length → I ds.length acc σ2 → Q (.ref D) (su σ2 D (.lst acc)))) E) : tLc (cPQ c.hp X tg iter) (gOf c.K t) (bTQ X c.hp scope ifs) (bEQ X c.hp scope elt) (own.map (·.2)) st K Q' := by
  have hX' := hX
  have hline : 1000000 < sizeLine := by rw [sizeLine_eq]; decide
  cases hX' with
  | mk _ k' Wx fa hpp hrH hcf hh hp' ht hf hN hU hst =>
    refine hi.run X hX st H K w r xc _ fun ds σ1 Jt G Yh H1 K1 g1 w1 ⟨hn, I, h0, hs, hq⟩ wk hG hy => ?_
    intro D hD
    refine lc_it wk (fun i K' => ∃ H' σ' acc vs, Gw H1 σ1 K1 H' σ' K' ∧ Wd X.K H' σ' K' ∧ K' D = some (.lst vs) ∧ σ' D = none ∧ H' D = none ∧ RepA X.K H' vs acc ∧ acc.length ≤ i ∧ I i acc σ') ⟨H1, σ1, [], [], Gw.push hD, w1.push hD, upd_same, w1.free hD, none_of w1.le hD, .nil, Nat.le_refl _, h0⟩ ?_ ?_ ?_
    · rintro i K' hi' ⟨H', σ', acc, vs, g, w', e, _, _, _, _, _⟩
      exact hG H' σ' K' g.b w'
    · rintro i x Ka Kb hi' ⟨H', σ', acc, vs, g, w', e, nD, nH, ra, hl, hI⟩ yy
      obtain ⟨H2, d, hd, g2, w2, rd, _⟩ := hy i x H' σ' Ka Kb hi' g.b w' yy
      obtain ⟨ρ', hst, turn⟩ := hs i d acc σ' hd hI
      obtain ⟨e2, nD2, nH2⟩ := g2.hid e (fun _ z => nomatch z) nD nH
      have r2 : REnv X.K H2 (wipeT ρ (own.map (·.2))) (L2.wipe st (own.map (·.2))) := (r.same (g1.b.trans (g.b.trans g2.b))).wipe _
      refine g_of w2 rd r2 hst fun st' rst hw => ⟨(hw _ hsub).trans (wipe_wipe _ _), ?_⟩
      have fin : ∀ {H3 K3 : Hp} {σ3 : Sg} {v : V} {y : DT}, Gw H2 σ' Kb H3 σ3 K3 → Wd X.K H3 σ3 K3 → Rep X.K H3 v y → I (i + 1) (acc ++ [y]) σ3 → ∃ acc', K3 D = some (.lst acc') ∧ acc'.length < sizeLine ∧
          ∃ H' σ' acc vs, Gw H1 σ1 K1 H' σ' (upd K3 D (.lst (acc' ++ [v]))) ∧ Wd X.K H' σ' (upd K3 D (.lst (acc' ++ [v]))) ∧ (upd K3 D (.lst (acc' ++ [v]))) D = some (.lst vs) ∧ σ' D = none ∧ H' D = none ∧ RepA X.K H' vs acc ∧ acc.length ≤ i + 1 ∧ I (i + 1) acc σ' := fun {H3 K3 σ3 v y} g3 w3 rv hI3 => by
        obtain ⟨e3, nD3, nH3⟩ := g3.hid e2 (fun _ z => nomatch z) nD2 nH2
        exact ⟨vs, e3, by rw [ra.length]; omega, H3, σ3, acc ++ [y], vs ++ [v], (g.trans (g2.trans g3)).touch hD, w3.touch nH3 nD3 e3 (fun _ z => nomatch z), upd_same, nD3, nH3, (ra.same (g2.b.trans g3.b)).append (.cons rv .nil), by rw [List.length_append, List.length_singleton]; omega, hI3⟩
      match ifs, turn with
      | [], turn =>
        intro s0 H0 C cl fp
        refine cTs_of pts_nil ?_
        unfold tYes
        refine iteT ?_
        intro s0 H0 C cl fp
        exact TE.run turn _ (con_blk hrH hcf hh hN hU s0 H0 C cl fp) st' H2 _ w2 rst xblk _ fun v y σ3 H3 K3 g3 w3 rv hI3 => fin g3 w3 rv hI3
      | [a], turn =>
        intro s0 H0 C cl fp
        refine cTs_of (pts_one cT_pt) ?_
        refine Y.TT.run turn _ (con_blk hrH hcf hh hN hU s0 H0 C cl fp) st' H2 _ w2 rst xblk _ fun b b' σ3 H3 K3 g3 w3 rb ⟨h1, h2⟩ => ?_
        subst rb
        cases b with
        | true =>
          refine iteT ?_
          intro s0 H0 C cl fp
          exact (h1 rfl).run _ (con_blk hrH hcf hh hN hU s0 H0 C cl fp) st' H3 _ w3 (rst.same g3.b) xblk _ fun v y σ4 H4 K4 g4 w4 rv hI4 => fin (g3.trans g4) w4 rv hI4
        | false =>
          obtain ⟨e3, nD3, nH3⟩ := g3.hid e2 (fun _ z => nomatch z) nD2 nH2
          exact iteF ⟨H3, σ3, acc, vs, g.trans (g2.trans g3), w3, e3, nD3, nH3, ra.same (g2.b.trans g3.b), by omega, h2 rfl⟩
      | _ :: _ :: _, turn => exact turn.elim
    · rintro K' ⟨H', σ', acc, vs, g, w', e, nD, nH, ra, hl, hI⟩
      exact fo _ _ _ H' K' (g1.trans (g.add hD)) (w'.add (c := .lst acc) nH ⟨vs, e, ra⟩) (.ref D) (hq D acc σ' nD hl hI)
/-- what a list comprehension needs -/
abbrev LcNeed (c : Ct) (t : TgS) (own : List (Str × Nat)) (ifs : List Expr) (elt : Expr) (scope : Scope) (ρ : EnvT) (Q : DT → Sg → Prop) (ds : List DT) (σ1 : Sg) : Prop :=
  ds.length ≤ 1000000 ∧ ∃ I : Nat → List DT → Sg → Prop, I 0 [] σ1 ∧
      (∀ i d acc σ2, ds[i]? = some d → I i acc σ2 → ∃ ρ', stT t d (wipeT ρ (own.map (·.2))) = some ρ' ∧ LcT (c.blk scope) ifs elt ρ' σ2 (fun y σ3 => I (i + 1) (acc ++ [y]) σ3) (I (i + 1) acc)) ∧
      (∀ D acc σ2, σ2 D = none → acc.length ≤ ds.length → I ds.length acc σ2 → Q (.ref D) (su σ2 D (.lst acc)))
theorem te_lcC (htg : TgOk (c.blk scope) tg t) (hb : blkC c.N c.sc scope own = true) (hsub : ∀ j ∈ t.slots, j ∈ own.map (·.2)) (hi : TI c tg iter ρ σ (LcNeed c t own ifs elt scope ρ Q) E)
    (hf : ∀ env x, foldedSetIterable iter env x = pure x := by intro _ _; rfl) : TE c (.ListComp elt [⟨tg, iter, ifs, 0⟩] scope pos) ρ σ Q E := ⟨fun X hX st H K w r xc Q' fo => by
  have hX' := hX
  cases hX' with
  | mk _ k' Wx fa hpp hrH hcf hh hp' ht hf' hN hU hst =>
    have ok := blkOk_by hb
    have go : ∀ tr : L2.TI, tr = cPQ hpp X tg iter → PE X (.ListComp elt [⟨tg, iter, ifs, 0⟩] scope pos) (tLc tr (gOf X.K t) (bTQ X hpp scope ifs) (bEQ X hpp scope elt) (own.map (·.2))) := by
      rintro tr rfl
      cases hpp with
      | none => exact pe_lc (hcf rfl).1 hN cP_pi ok (fun s0 H0 C cl fp => tg_pg htg (con_blk hrH hcf hh hN hU s0 H0 C cl fp)) bTQ_pts0 bEQ_pe0 (hf _)
      | some p => exact pe_lcHot (hh p rfl) hN cPH_pi ok (fun s0 H0 C cl fp => tg_pg htg (con_blk hrH hcf hh hN hU s0 H0 C cl fp)) bTQ_pts bEQ_pe (hf _)
    refine cE_of (go _ rfl) ?_
    exact lc_runT hX w r xc fo hsub hi⟩
end
end Y

/-! Y4: statements, defs. -/
namespace Y
open PySem PySem.Spec L2 SX Z
open PyProof.Rows (subscriptTail)
structure EndT where
  nx : EnvT → Sg → Prop
  rt : DT → Sg → Prop
  bk : EnvT → Sg → Prop := fun _ _ => False
  ct : EnvT → Sg → Prop := fun _ _ => False
  ex : Value → Option (List (Str × DT)) → EnvT → Sg → Prop := fun _ _ _ _ => False
/-- what may leave an expression at these slots -/
abbrev xD (D : EndT) (ρ : EnvT) : TX := fun cls x σ => D.ex cls x ρ σ
structure FoS (c : Ct) (H : Hp) (σ : Sg) (K : Hp) (D : EndT) (D' : Ends) : Prop where
  nx : ∀ ρ' σ' st' H' K', Gw H σ K H' σ' K' → Wd c.K H' σ' K' → REnv c.K H' ρ' st' → D.nx ρ' σ' → D'.nx st' K'
  rt : ∀ v d σ' H' K', Gw H σ K H' σ' K' → Wd c.K H' σ' K' → Rep c.K H' v d → D.rt d σ' → D'.rt v K'
  bk : ∀ ρ' σ' st' H' K', Gw H σ K H' σ' K' → Wd c.K H' σ' K' → REnv c.K H' ρ' st' → D.bk ρ' σ' → D'.bk st' K'
  ct : ∀ ρ' σ' st' H' K', Gw H σ K H' σ' K' → Wd c.K H' σ' K' → REnv c.K H' ρ' st' → D.ct ρ' σ' → D'.ct st' K'
  ex : ∀ cls dA x ρ' σ' st' H' K', Gw H σ K H' σ' K' → Wd c.K H' σ' K' → REnv c.K H' ρ' st' → XRep c.K H' dA x → D.ex cls x ρ' σ' → c.Wx cls dA st' K'
theorem FoS.next {c : Ct} {H H1 K K1 : Hp} {σ σ1 : Sg} {D : EndT} {D' : Ends} (f : FoS c H σ K D D') (g : Gw H σ K H1 σ1 K1) : FoS c H1 σ1 K1 D D' where
  nx := fun ρ' σ' st' H' K' g' => f.nx ρ' σ' st' H' K' (g.trans g')
  rt := fun v d σ' H' K' g' => f.rt v d σ' H' K' (g.trans g')
  bk := fun ρ' σ' st' H' K' g' => f.bk ρ' σ' st' H' K' (g.trans g')
  ct := fun ρ' σ' st' H' K' g' => f.ct ρ' σ' st' H' K' (g.trans g')
  ex := fun cls dA x ρ' σ' st' H' K' g' => f.ex cls dA x ρ' σ' st' H' K' (g.trans g')
theorem FoS.xc {c : Ct} {H K : Hp} {σ : Sg} {D : EndT} {D' : Ends} {ρ : EnvT} {st : L2.St} (f : FoS c H σ K D D') (r : REnv c.K H ρ st) : XC c H σ K st (xD D ρ) := fun cls dA x σ' H' K' g w xr e => f.ex cls dA x ρ σ' st H' K' g w (r.same g.b) xr e
structure TS (c : Ct) (s : Stmt) (ρ : EnvT) (σ : Sg) (D : EndT) : Prop where
  run : ∀ X, Con c X → ∀ st H K, Wd c.K H σ K → REnv c.K H ρ st → ∀ D', FoS c H σ K D D' → cS X s D' st K
structure TBk (c : Ct) (b : List Stmt) (ρ : EnvT) (σ : Sg) (D : EndT) : Prop where
  run : ∀ X, Con c X → ∀ st H K, Wd c.K H σ K → REnv c.K H ρ st → ∀ D', FoS c H σ K D D' → cB X b D' st K
section
variable {c : Ct} {ρ : EnvT} {σ : Sg} {D : EndT} {e a b tg iter elt kx vx o : Expr} {es : List Expr} {ifs : List Expr} {scope : Scope} {pos p1 apos : Pos} {own : List (Str × Nat)} {t : TgS} {s : Stmt} {r b1 b2 body : List Stmt} {x : Str} {d : DT}
theorem tk_nil (h : D.nx ρ σ) : TBk c [] ρ σ D := ⟨fun X hX st H K w re D' f => b_nil (f.nx ρ σ st H K Gw.refl w re h)⟩
theorem tk_cons (h : TS c s ρ σ { D with nx := fun ρ' σ' => TBk c r ρ' σ' D }) : TBk c (s :: r) ρ σ D := ⟨fun X hX st H K w re D' f => by
  refine b_cons (h.run X hX st H K w re _ ⟨fun ρ' σ' st' H' K' g w' re' q => ?_, f.rt, f.bk, f.ct, f.ex⟩)
  exact q.run X hX st' H' K' w' re' D' (f.next g)⟩
theorem TS.imp {D1 : EndT} (h : TS c s ρ σ D1) (nx : ∀ ρ σ, D1.nx ρ σ → D.nx ρ σ) (rt : ∀ ρ σ, D1.rt ρ σ → D.rt ρ σ) (bk : ∀ ρ σ, D1.bk ρ σ → D.bk ρ σ) (ct : ∀ ρ σ, D1.ct ρ σ → D.ct ρ σ) (ex : ∀ a b ρ σ, D1.ex a b ρ σ → D.ex a b ρ σ) : TS c s ρ σ D := ⟨fun X hX st H K w re D' f =>
  h.run X hX st H K w re D' ⟨fun ρ' σ' st' H' K' g w r q => f.nx _ _ _ _ _ g w r (nx _ _ q), fun v d σ' H' K' g w r q => f.rt _ _ _ _ _ g w r (rt _ _ q), fun ρ' σ' st' H' K' g w r q => f.bk _ _ _ _ _ g w r (bk _ _ q), fun ρ' σ' st' H' K' g w r q => f.ct _ _ _ _ _ g w r (ct _ _ q),
    fun cls dA x ρ' σ' st' H' K' g w r xr q => f.ex _ _ _ _ _ _ _ _ g w r xr (ex _ _ _ _ q)⟩⟩
/-- a cell held by a slot is known for good from now on -/
theorem tk_frz {i : Nat} {p : Addr} {k : Cell} (hi : ρ[i]? = some (some (.ref p))) (hs : σ p = some k) (h : TBk c r (ρ.set i (some k.tree)) (sd σ p) D) : TBk c r ρ σ D := ⟨fun X hX st H K w re D' f pins s I => by
  obtain ⟨H2, K2, I2, g, w2, r2⟩ := w.freeze hs I
  obtain ⟨v, e, rv⟩ := re.get i _ hi
  have hv : v = .ref p := by cases rv; rfl
  subst hv
  refine h.run X hX st H2 K2 w2 ⟨by rw [List.length_set]; exact re.len, fun j d e2 => ?_⟩ D' (f.next g) pins s I2
  rw [List.getElem?_set] at e2
  split at e2
  · next z =>
    subst z
    split at e2
    · cases e2
      exact ⟨_, e, r2⟩
    · cases e2
  · obtain ⟨v, q1, q2⟩ := re.get j d e2
    exact ⟨v, q1, q2.same g.b⟩⟩
/-- a name that is stored -/
theorem ts_set {i : Nat} (hi : StoreN c x i) (h : TE c e ρ σ (fun d σ1 => D.nx (ρ.set i (some d)) σ1) (xD D ρ)) (hs : ∀ env, swapsWith e (some (.Name x p1)) pos.line env = pure false := by intro _; rfl) : TS c (.Assign [.Name x p1] e pos) ρ σ D := ⟨fun X hX st H K w re D' f => by
  have hX' := hX
  cases hX' with
  | mk _ k' Wx fa hpp hrH hcf hh hp' ht hf hN hU hst =>
    obtain ⟨h1, h2, h3⟩ := hi
    refine cS_of (ps_set hN h1 h2 cE_pe (hs _) (h3.imp (fun z => hf z x) id)) ?_
    exact h.run X hX st H K w re (f.xc re) _ fun v d σ1 H1 K1 g1 w1 rv q => f.nx _ _ _ H1 K1 g1 w1 ((re.same g1.b).set rv i) q⟩
theorem tk_set {i : Nat} (hi : StoreN c x i) (h : TE c e ρ σ (fun d σ1 => TBk c r (ρ.set i (some d)) σ1 D) (xD D ρ)) (hs : ∀ env, swapsWith e (some (.Name x p1)) pos.line env = pure false := by intro _; rfl) : TBk c (.Assign [.Name x p1] e pos :: r) ρ σ D := tk_cons (ts_set hi h hs)
theorem tk_setV {i : Nat} (hi : StoreN c x i) (he : TV c e ρ σ d) (h : TBk c r (ρ.set i (some d)) σ D) (hs : ∀ env, swapsWith e (some (.Name x p1)) pos.line env = pure false := by intro _; rfl) : TBk c (.Assign [.Name x p1] e pos :: r) ρ σ D := tk_set hi (he.to h) hs
/-- x = [..] on one line, x plain -/
theorem ts_setLc {i : Nat} (hy : c.N[i]? = some x) (hyl : c.sc.names.lookup x = some .local) (hln : (p1.line == pos.line) = true) (hown : (scope.names.any fun (n, k) => n == x && (k == .local || k == .cell)) = false)
    (htg : TgOk (c.blk scope) tg t) (hb : blkC c.N c.sc scope own = true) (hsub : ∀ j ∈ t.slots, j ∈ own.map (·.2)) (hi : TI c tg iter ρ σ (LcNeed c t own ifs elt scope ρ (fun d σ1 => D.nx (ρ.set i (some d)) σ1)) (xD D ρ)) {p2 : Pos}
    (hf : ∀ env x, foldedSetIterable iter env x = pure x := by intro _ _; rfl) : TS c (.Assign [.Name x p1] (.ListComp elt [⟨tg, iter, ifs, 0⟩] scope pos) p2) ρ σ D := ⟨fun X hX st H K w re D' f => by
  have hX' := hX
  cases hX' with
  | mk _ k' Wx fa hpp hrH hcf hh hp' ht hf' hN hU hst =>
    intro pins s J0
    have ok := blkOk_by hb
    have go : ∀ tr : L2.TI, tr = cPQ hpp X tg iter → PS X (.Assign [.Name x p1] (.ListComp elt [⟨tg, iter, ifs, 0⟩] scope pos) p2) (tAsg (tLc tr (gOf X.K t) (bTQ X hpp scope ifs) (bEQ X hpp scope elt) (own.map (·.2))) (gName i)) := by
      rintro tr rfl
      cases hpp with
      | none => exact ps_setLc (hcf rfl).1 hN hy hyl (sw_true J0.ok.kind hyl hln hown) cP_pi ok (fun s0 H0 C cl fp => tg_pg htg (con_blk hrH hcf hh hN hU s0 H0 C cl fp)) bTQ_pts0 bEQ_pe0 (hf _)
      | some p => exact ps_setLcHot (hh p rfl) hN hy hyl (sw_true J0.ok.kind hyl hln hown) cPH_pi ok (fun s0 H0 C cl fp => tg_pg htg (con_blk hrH hcf hh hN hU s0 H0 C cl fp)) bTQ_pts bEQ_pe (hf _)
    refine cS_of (go _ rfl) ?_ pins s J0
    exact lc_runT hX w re (f.xc re) (fun v d σ1 H1 K1 g1 w1 rv q => f.nx _ _ _ H1 K1 g1 w1 ((re.same g1.b).set rv i) q) hsub hi⟩
/-- x = [..] where another comprehension reads x -/
theorem ts_setLcC {gs : List Comprehension} {p2 : Pos} {i : Nat} (hi : StoreN c x i) (hc2 : c.sc.names.lookup x = some .cell) (h : TE c (.ListComp elt gs scope p2) ρ σ (fun d σ1 => D.nx (ρ.set i (some d)) σ1) (xD D ρ)) : TS c (.Assign [.Name x p1] (.ListComp elt gs scope p2) pos) ρ σ D := ⟨fun X hX st H K w re D' f => by
  have hX' := hX
  cases hX' with
  | mk _ k' Wx fa hpp hrH hcf hh hp' ht hf hN hU hst =>
    obtain ⟨h1, h2, h3⟩ := hi
    refine cS_of (ps_set hN h1 h2 cE_pe (sw_lcCell hc2) (h3.imp (fun z => hf z x) id)) ?_
    exact h.run X hX st H K w re (f.xc re) _ fun v d σ1 H1 K1 g1 w1 rv q => f.nx _ _ _ H1 K1 g1 w1 ((re.same g1.b).set rv i) q⟩
theorem ts_ret (h : TE c e ρ σ D.rt (xD D ρ)) : TS c (.Return (some e) pos) ρ σ D := ⟨fun X hX st H K w re D' f => cS_of (ps_ret cE_pe) (h.run X hX st H K w re (f.xc re) _ f.rt)⟩
theorem ts_expr (h : TE c e ρ σ (fun _ σ1 => D.nx ρ σ1) (xD D ρ)) (hs : ∀ env, swapsWith e none pos.line env = pure false := by intro _; rfl) : TS c (.Expr e pos) ρ σ D := ⟨fun X hX st H K w re D' f =>
  cS_of (ps_expr cE_pe (hs _)) (h.run X hX st H K w re (f.xc re) _ fun v d σ1 H1 K1 g1 w1 rv q => f.nx _ _ _ H1 K1 g1 w1 (re.same g1.b) q)⟩
theorem ts_if (h : TT c e ρ σ (fun r σ1 => (r = true → TBk c b1 ρ σ1 D) ∧ (r = false → TBk c b2 ρ σ1 D)) (xD D ρ)) : TS c (.If e b1 b2 pos) ρ σ D := ⟨fun X hX st H K w re D' f => by
  refine cS_of (ps_if cT_pt cB_pss cB_pss) ?_
  refine h.run X hX st H K w re (f.xc re) _ fun v v' σ1 H1 K1 g1 w1 rv ⟨h1, h2⟩ => ?_
  subst rv
  cases v with
  | true => exact iteT ((h1 rfl).run X hX st H1 K1 w1 (re.same g1.b) D' (f.next g1))
  | false => exact iteF ((h2 rfl).run X hX st H1 K1 w1 (re.same g1.b) D' (f.next g1))⟩
theorem tk_if {v : Bool} (he : TB c e ρ σ v) (h1 : v = true → TBk c b1 ρ σ { D with nx := fun ρ' σ' => TBk c r ρ' σ' D }) (h2 : v = false → TBk c b2 ρ σ { D with nx := fun ρ' σ' => TBk c r ρ' σ' D }) : TBk c (.If e b1 b2 pos :: r) ρ σ D := tk_cons (ts_if (he.to ⟨h1, h2⟩))
theorem tk_ifT (he : TB c e ρ σ true) (h1 : TBk c b1 ρ σ { D with nx := fun ρ' σ' => TBk c r ρ' σ' D }) : TBk c (.If e b1 b2 pos :: r) ρ σ D := tk_if he (fun _ => h1) (fun z => nomatch z)
theorem tk_ifF (he : TB c e ρ σ false) (h2 : TBk c b2 ρ σ { D with nx := fun ρ' σ' => TBk c r ρ' σ' D }) : TBk c (.If e b1 b2 pos :: r) ρ σ D := tk_if he (fun z => nomatch z) (fun _ => h2)
/-- .. a test that ends the def, or goes on (no else) -/
theorem tk_ifG {v : Bool} (he : TB c e ρ σ v) (h1 : v = true → TBk c b1 ρ σ { D with nx := fun ρ' σ' => TBk c r ρ' σ' D }) (h2 : v = false → TBk c r ρ σ D) : TBk c (.If e b1 [] pos :: r) ρ σ D := tk_if he h1 (fun z => tk_nil (h2 z))
theorem tk_ret {v : DT} (he : TV c e ρ σ v) (h : D.rt v σ) : TBk c (.Return (some e) pos :: r) ρ σ D := tk_cons (ts_ret (he.to h))
/-- a target of several names -/
theorem ts_tg {k : Nat} (htg : TgOk c (.Tuple es k p1) t) (h : TE c e ρ σ (fun d σ1 => ∃ ρ', stT t d ρ = some ρ' ∧ D.nx ρ' σ1) (xD D ρ)) (hs : ∀ env, swapsWithSole [.Tuple es k p1] e pos.line env = pure false := by intro _; rfl) (hw : ∀ env, swappedStores [.Tuple es k p1] e env = pure none := by intro _; rfl) : TS c (.Assign [.Tuple es k p1] e pos) ρ σ D := ⟨fun X hX st H K w re D' f => by
  refine cS_of (ps_asg cE_pe (tg_pg htg hX) (hs _) (hw _)) ?_
  refine h.run X hX st H K w re (f.xc re) _ fun v d σ1 H1 K1 g1 w1 rv ⟨ρ', h1, q⟩ => ?_
  exact g_of w1 rv (re.same g1.b) h1 fun st' re' _ => f.nx _ _ _ H1 K1 g1 w1 re' q⟩
/-- .. one of them read by a comprehension -/
theorem ts_un2 [Calm c] {i j : Nat} {y : Str} {px py pt p2 : Pos} {kt k2 : Nat} (hi : IsN c (.Name x px) i) (hj : IsN c (.Name y py) j) (h : TE c (.Tuple [a, b] k2 p2) ρ σ (fun d σ1 => ∃ v w, d = .tup [v, w] ∧ D.nx ((ρ.set i (some v)).set j (some w)) σ1) (xD D ρ))
    (hn : c.sc.names.lookup x = some .cell ∨ c.sc.names.lookup y = some .cell) (hs : ([a, b].any fun | .Starred .. => true | _ => false) = false := by rfl)
    (hsw : ∀ env, swapsWithSole [.Tuple [.Name x px, .Name y py] kt pt] (.Tuple [a, b] k2 p2) pos.line env = pure false := by intro _; rfl) : TS c (.Assign [.Tuple [.Name x px, .Name y py] kt pt] (.Tuple [a, b] k2 p2) pos) ρ σ D := ⟨fun X hX st H K w re D' f => by
  have hX' := hX
  have gx := isN_pg hi hX
  have gy := isN_pg hj hX
  obtain ⟨_, _, e1, _, lx, _⟩ := hi
  obtain ⟨_, _, e2, _, ly, _⟩ := hj
  cases e1
  cases e2
  cases hX' with
  | mk _ k' Wx fa hpp hrH hcf hh hp ht hf hN hU hst =>
    obtain rfl : hpp = none := ‹Calm _›.h
    obtain ⟨hc, hr⟩ := hcf rfl
    intro pins s I
    have hk : X.env.blockKind = .function := by
      have z : X.env.scope.kind = .function := I.ok.kind
      unfold Env.blockKind
      rw [z]
      rfl
    refine cS_of (ps_asg cE_pe (pg_tup hc (pgs_cons gx (pgs_cons gy pgs_nil))) (hsw _) (sw_half hk lx ly hn hs)) ?_ pins s I
    refine h.run X hX st H K w re (f.xc re) _ fun v d σ1 H1 K1 g1 w1 rv ⟨u1, u2, h1, q⟩ => ?_
    subst h1
    cases rv with
    | tup hsq ra =>
      cases ra with
      | cons h1 t =>
        cases t with
        | cons h2 t2 =>
          cases t2
          exact ⟨_, _, rfl, same_sqt w1.le hsq, rfl, _, _, rfl, _, _, rfl, rfl, f.nx _ _ _ H1 K1 g1 w1 (((re.same g1.b).set h1 i).set h2 j) q⟩⟩
/-! ### loops -/
theorem ts_for (htg : TgOk c tg t) (hi : TI c tg iter ρ σ (fun ds σ1 => ∃ I : Nat → EnvT → Sg → Prop, I 0 ρ σ1 ∧
      (∀ i d ρ1 σ2, ds[i]? = some d → I i ρ1 σ2 → ∃ ρ2, stT t d ρ1 = some ρ2 ∧ TBk c body ρ2 σ2 { D with nx := I (i + 1), ct := I (i + 1), bk := D.nx }) ∧ (∀ ρ1 σ2, I ds.length ρ1 σ2 → D.nx ρ1 σ2)) (xD D ρ))
    (hf : ∀ env x, foldedSetIterable iter env x = pure x := by intro _ _; rfl) : TS c (.For tg iter body [] pos) ρ σ D := ⟨fun X hX st H K w re D' f => by
  have hX' := hX
  cases hX' with
  | mk _ k' Wx fa hpp hrH hcf hh hp' hth hf' hN hU hst =>
    have go : ∀ D', tFor (cPQ hpp X tg iter) (gOf X.K t) (cB X body) D' st K → cS X (.For tg iter body [] pos) D' st K := fun D' z => by
      cases hpp with
      | none => exact cS_of (ps_for hp' (hcf rfl).1 cP_pi (tg_pg htg hX) cB_pss (hf _)) z
      | some p => exact cS_of (L2H.ps_forH hp' ⟨p, (hh p rfl).1, (hh p rfl).2⟩ cPH_pi (tg_pg htg hX) cB_pss (hf _)) z
    refine go _ ?_
    refine hi.run X hX st H K w re (f.xc re) _ fun ds σ1 Jt G Yh H1 K1 g1 w1 ⟨I, h0, hs, hd⟩ wk hG hy => ?_
    refine for_it wk (fun i st' K' => ∃ H' σ' ρ', Gw H1 σ1 K1 H' σ' K' ∧ Wd X.K H' σ' K' ∧ REnv X.K H' ρ' st' ∧ I i ρ' σ') ⟨H1, σ1, ρ, Gw.refl, w1, re.same g1.b, h0⟩ ?_ ?_ ?_
    · rintro i st' K' _ ⟨H', σ', ρ', g, w', _, _⟩
      exact hG H' σ' K' g.b w'
    · rintro i v st' Ka Kb hlt ⟨H', σ', ρ', g, w', re', hI⟩ yy
      obtain ⟨H2, d, hdd, g2, w2, rd, _⟩ := hy i v H' σ' Ka Kb hlt g.b w' yy
      obtain ⟨ρ2, hst, hb⟩ := hs i d ρ' σ' hdd hI
      refine g_of w2 rd (re'.same g2.b) hst fun st2 re2 _ => ?_
      have gg := g1.trans (g.trans g2)
      refine hb.run X hX st2 H2 Kb w2 re2 _ ⟨fun ρ3 σ3 st3 H3 K3 g3 w3 re3 q => ⟨H3, σ3, ρ3, g.trans (g2.trans g3), w3, re3, q⟩, fun v d σ3 H3 K3 g3 => f.rt v d σ3 H3 K3 (gg.trans g3), fun ρ3 σ3 st3 H3 K3 g3 => f.nx ρ3 σ3 st3 H3 K3 (gg.trans g3), fun ρ3 σ3 st3 H3 K3 g3 w3 re3 q => ⟨H3, σ3, ρ3, g.trans (g2.trans g3), w3, re3, q⟩,
        fun cls dA x ρ3 σ3 st3 H3 K3 g3 => f.ex cls dA x ρ3 σ3 st3 H3 K3 (gg.trans g3)⟩
    · rintro st' K' ⟨H', σ', ρ', g, w', re', hI⟩
      exact f.nx _ _ _ H' K' (g1.trans g) w' re' (hd ρ' σ' hI)⟩
end

/-! ### a def -/
/-- a def of the text as the top left it -/
def startT (N : List Str) (ds : List DT) : EnvT := ds.map some ++ List.replicate (N.length - ds.length) none
abbrev ctQ (hp : HP) (P : Program) (w : World) (F : PySem.W.Frag) (mg : Str → Option Value) (base : Heap) (N : List Str) (st : Stmt) (k : Nat) (Wx : WX) : Ct := ⟨P, w, F, mg, base, N, defScope st, k, Wx, true, hp⟩
abbrev ctD (P : Program) (w : World) (F : PySem.W.Frag) (mg : Str → Option Value) (base : Heap) (N : List Str) (st : Stmt) (k : Nat) (Wx : WX) : Ct := ⟨P, w, F, mg, base, N, defScope st, k, Wx, true, none⟩
theorem fnQ_ok {hp : HP} {P : Program} {w : World} {F : PySem.W.Frag} {mg : Str → Option Value} {base : Heap} {x qual : Str} {st : Stmt} {f : Addr} {fd : FuncData} {N ps : List Str} {k : Nat} {spec : TSpec} (Fn : Fun F x qual st f fd) (S : FnScope N ps (defScope st)) (len : ∀ ds σ Q E, spec ds σ Q E → ds.length = ps.length)
    (hb : ∀ (ds : List DT) (σ : Sg) (Q : DT → Sg → Prop) (E : TX) (Wx : WX), spec ds σ Q E → TBk (ctQ hp P w F mg base N st k Wx) (defBody st) (startT N ds) σ { nx := fun _ σ' => Q .non σ', rt := Q, ex := fun cls x _ σ' => E cls x σ' }) : FnC hp P w F mg base (k + 1) f fd ps (spT F spec) := by
  refine fnC_of Fn S (fun vs K Q E h => ?_) (fun cdv A outer s K vs Q E hr hA hot hG h => ?_)
  · obtain ⟨ds, H, σ, Qd, Ed, _, ra, h, _⟩ := h
    exact ra.length.trans (len _ _ _ _ h)
  · obtain ⟨ds, H, σ, Qd, Ed, wd, ra, h, q, x⟩ := h
    refine ⟨_, cB_pss, ?_⟩
    refine (hb ds σ Qd Ed (fun cls d _ H => E cls d H) h).run _ ?_ _ H K wd ?_ _ ⟨fun ρ' σ' st' H' K' g w' _ e => q _ _ σ' H' K' g w' .non e, fun v d σ' H' K' g w' rv e => q v d σ' H' K' g w' rv e, fun _ _ _ _ _ _ _ _ e => e.elim, fun _ _ _ _ _ _ _ _ e => e.elim, fun cls dA z ρ' σ' st' H' K' g w' _ xr e => x cls dA z σ' H' K' g w' xr e⟩
    · exact Con.mk (cxC hp P w F mg base N qual (defScope st) f cdv A outer s K E) k _ true hp hr (fun e => by subst e; exact ⟨rfl, room_of hr (hA rfl)⟩) (fun p e => by subst e; exact ⟨hot p rfl, List.mem_singleton.mpr rfl⟩) (passes_of rfl) (L2N.takes_of rfl rfl rfl rfl) (fun _ _ => rfl) S.nd hG (fun _ => ⟨rfl, rfl, rfl⟩)
    · unfold startT L2.start
      rw [ra.length]
      exact renv_start ra _
theorem fnT_ok {P : Program} {w : World} {F : PySem.W.Frag} {mg : Str → Option Value} {base : Heap} {x qual : Str} {st : Stmt} {f : Addr} {fd : FuncData} {N ps : List Str} {k : Nat} {spec : TSpec} (Fn : Fun F x qual st f fd) (S : FnScope N ps (defScope st)) (len : ∀ ds σ Q E, spec ds σ Q E → ds.length = ps.length)
    (hb : ∀ (ds : List DT) (σ : Sg) (Q : DT → Sg → Prop) (E : TX) (Wx : WX), spec ds σ Q E → TBk (ctD P w F mg base N st k Wx) (defBody st) (startT N ds) σ { nx := fun _ σ' => Q .non σ', rt := Q, ex := fun cls x _ σ' => E cls x σ' }) : FnG P w F mg base (k + 1) f fd ps (spT F spec) := fnQ_ok Fn S len hb
theorem dtQ_ok {hp : HP} {P : Program} {w : World} {F : PySem.W.Frag} {mg : Str → Option Value} {base : Heap} {x : Str} {st : Stmt} {N ps : List Str} {k : Nat} {spec : TSpec} (d : DfN F mg x ps st) (S : FnScope N ps (defScope st)) (len : ∀ ds σ Q E, spec ds σ Q E → ds.length = ps.length)
    (hb : ∀ (ds : List DT) (σ : Sg) (Q : DT → Sg → Prop) (E : TX) (Wx : WX), spec ds σ Q E → TBk (ctQ hp P w F mg base N st k Wx) (defBody st) (startT N ds) σ { nx := fun _ σ' => Q .non σ', rt := Q, ex := fun cls x _ σ' => E cls x σ' }) : DtQ hp P w F mg base x ps (k + 1) spec := by
  obtain ⟨f, fd, h1, h2, h3⟩ := d
  exact ⟨f, fd, h1, h2.kp, h3, fnQ_ok h2 S len hb⟩
theorem dt_ok {P : Program} {w : World} {F : PySem.W.Frag} {mg : Str → Option Value} {base : Heap} {x : Str} {st : Stmt} {N ps : List Str} {k : Nat} {spec : TSpec} (d : DfN F mg x ps st) (S : FnScope N ps (defScope st)) (len : ∀ ds σ Q E, spec ds σ Q E → ds.length = ps.length)
    (hb : ∀ (ds : List DT) (σ : Sg) (Q : DT → Sg → Prop) (E : TX) (Wx : WX), spec ds σ Q E → TBk (ctD P w F mg base N st k Wx) (defBody st) (startT N ds) σ { nx := fun _ σ' => Q .non σ', rt := Q, ex := fun cls x _ σ' => E cls x σ' }) : Dt P w F mg base x ps (k + 1) spec := dtQ_ok d S len hb
end Y

/-! Y5: operations by values. -/
namespace Y
open PySem PySem.Spec L2 SX Z
open PyProof.Rows (subscriptTail)
/-! ### what reads as a list, a tuple, a dict -/
def LsX (σ : Sg) (x : DT) (ds : List DT) : Prop := x = .lst ds ∨ ∃ p, x = .ref p ∧ σ p = some (.lst ds)
def LsT (σ : Sg) (x : DT) (ds : List DT) : Prop := LsX σ x ds ∨ x = .seq ds
def DiT (σ : Sg) (x : DT) (kvs : List (DK × DT)) : Prop := x = .dct kvs ∨ ∃ p, x = .ref p ∧ σ p = some (.dct kvs)
theorem lsX_l {σ : Sg} {ds : List DT} : LsX σ (.lst ds) ds := .inl rfl
theorem lsX_c {σ : Sg} {p : Addr} {ds : List DT} (h : σ p = some (.lst ds)) : LsX σ (.ref p) ds := .inr ⟨p, rfl, h⟩
theorem lsT_l {σ : Sg} {ds : List DT} : LsT σ (.lst ds) ds := .inl (.inl rfl)
theorem lsT_s {σ : Sg} {ds : List DT} : LsT σ (.seq ds) ds := .inr rfl
theorem lsT_c {σ : Sg} {p : Addr} {ds : List DT} (h : σ p = some (.lst ds)) : LsT σ (.ref p) ds := .inl (.inr ⟨p, rfl, h⟩)
section
variable {F : PySem.W.Frag} {H K : Hp} {σ : Sg} {v : V} {x : DT} {ds : List DT}
theorem LsX.now (l : LsX σ x ds) (w : Wd F H σ K) (r : Rep F H v x) : ∃ a vs, v = .ref a ∧ K a = some (.lst vs) ∧ RepA F H vs ds := by
  rcases l with rfl | ⟨p, rfl, h⟩
  · cases r with
    | lst hs ra => exact ⟨_, _, rfl, w.le _ _ hs, ra⟩
  · cases r
    obtain ⟨vs, e, ra⟩ := w.on p _ h
    exact ⟨p, vs, rfl, e, ra⟩
theorem LsT.now (l : LsT σ x ds) (w : Wd F H σ K) (r : Rep F H v x) : ∃ a vs, v = .ref a ∧ SqL F K a vs ∧ RepA F H vs ds := by
  rcases l with l | rfl
  · obtain ⟨a, vs, e, h, ra⟩ := l.now w r
    exact ⟨a, vs, e, SqL.of h, ra⟩
  · cases r with
    | seq hs ra => exact ⟨_, _, rfl, same_sql w.le hs, ra⟩
theorem rep_tup (w : Wd F H σ K) (r : Rep F H v (.tup ds)) : ∃ a vs, v = .ref a ∧ SqT F K a vs ∧ RepA F H vs ds := by
  cases r with
  | tup hs ra => exact ⟨_, _, rfl, same_sqt w.le hs, ra⟩
theorem DiT.now {kvs : List (DK × DT)} (l : DiT σ x kvs) (w : Wd F H σ K) (r : Rep F H v x) : ∃ a vs, v = .ref a ∧ L2.Rd K a (.dK vs) ∧ RepK F H vs kvs := by
  rcases l with rfl | ⟨p, rfl, h⟩
  · cases r with
    | dct hs ra => exact ⟨_, _, rfl, .inr ⟨_, w.le _ _ hs⟩, ra⟩
  · cases r
    obtain ⟨vs, e, ra⟩ := w.on p _ h
    exact ⟨p, vs, rfl, .inl e, ra⟩
end
section
variable {c : Ct} {σ : Sg} {i j : Int} {a b l : List Nat} {x y d : DT} {xs ys ds : List DT} {p q : Addr} {P : DT → Sg → Prop}
/-! ### ints -/
theorem po_addI : PO2 c (binaryOp .Add) (.int i) (.int j) σ (.int (i + j)) := ⟨fun X hX H K w v u rv ru Q k => by cases rv; cases ru; exact cO_of op_add ⟨i, j, rfl, rfl, k _ H K Gw.refl w (.int _)⟩⟩
theorem po_subI : PO2 c (binaryOp .Sub) (.int i) (.int j) σ (.int (i - j)) := ⟨fun X hX H K w v u rv ru Q k => by cases rv; cases ru; exact cO_of op_sub ⟨i, j, rfl, rfl, k _ H K Gw.refl w (.int _)⟩⟩
theorem po_mulI (h : CMulW i j) : PO2 c (binaryOp .Mult) (.int i) (.int j) σ (.int (i * j)) := ⟨fun X hX H K w v u rv ru Q k => by cases rv; cases ru; exact cO_of op_mulW ⟨i, j, rfl, rfl, h, k _ H K Gw.refl w (.int _)⟩⟩
theorem po_modI (h : 0 < j) : PO2 c (binaryOp .Mod) (.int i) (.int j) σ (.int (i % j)) := ⟨fun X hX H K w v u rv ru Q k => by cases rv; cases ru; exact cO_of op_mod ⟨i, j, rfl, rfl, h, k _ H K Gw.refl w (.int _)⟩⟩
theorem po_divI (h : CDivW i j) : PO2 c (binaryOp .FloorDiv) (.int i) (.int j) σ (.int (i / j)) := ⟨fun X hX H K w v u rv ru Q k => by cases rv; cases ru; exact cO_of op_fdivW ⟨i, j, rfl, rfl, h, k _ H K Gw.refl w (.int _)⟩⟩
theorem po_powI (h : CPow i j) : PO2 c (binaryOp .Pow) (.int i) (.int j) σ (.int (i ^ j.toNat)) := ⟨fun X hX H K w v u rv ru Q k => by cases rv; cases ru; exact cO_of op_pow ⟨i, j, rfl, rfl, h, k _ H K Gw.refl w (.int _)⟩⟩
theorem po_ltI : PO2 c (compareOp .Lt) (.int i) (.int j) σ (.bl (decide (i < j))) := ⟨fun X hX H K w v u rv ru Q k => by cases rv; cases ru; exact cO_of op_lt ⟨i, j, rfl, rfl, k _ H K Gw.refl w (.bl _)⟩⟩
theorem po_leI : PO2 c (compareOp .LtE) (.int i) (.int j) σ (.bl (decide (i ≤ j))) := ⟨fun X hX H K w v u rv ru Q k => by cases rv; cases ru; exact cO_of op_le ⟨i, j, rfl, rfl, k _ H K Gw.refl w (.bl _)⟩⟩
theorem po_gtI : PO2 c (compareOp .Gt) (.int i) (.int j) σ (.bl (decide (j < i))) := ⟨fun X hX H K w v u rv ru Q k => by cases rv; cases ru; exact cO_of op_gt ⟨i, j, rfl, rfl, k _ H K Gw.refl w (.bl _)⟩⟩
theorem po_geI : PO2 c (compareOp .GtE) (.int i) (.int j) σ (.bl (decide (j ≤ i))) := ⟨fun X hX H K w v u rv ru Q k => by cases rv; cases ru; exact cO_of op_ge ⟨i, j, rfl, rfl, k _ H K Gw.refl w (.bl _)⟩⟩
theorem po_iaddI : PO2 c (inplaceOp .Add) (.int i) (.int j) σ (.int (i + j)) := ⟨fun X hX H K w v u rv ru Q k => by cases rv; cases ru; exact cO_of iop_add ⟨i, j, rfl, rfl, k _ H K Gw.refl w (.int _)⟩⟩
theorem po_isubI : PO2 c (inplaceOp .Sub) (.int i) (.int j) σ (.int (i - j)) := ⟨fun X hX H K w v u rv ru Q k => by cases rv; cases ru; exact cO_of iop_sub ⟨i, j, rfl, rfl, k _ H K Gw.refl w (.int _)⟩⟩
theorem po_negI : PO1 c (unaryOp .USub) (.int i) σ (.int (-i)) := ⟨fun X hX H K w v rv Q k => by cases rv; exact cU_of un_neg ⟨i, rfl, k _ H K Gw.refl w (.int _)⟩⟩
/-! ### ==, !=, is -/
theorem po_eqI : PO2 c (compareOp .Eq) (.int i) (.int j) σ (.bl (decide (i = j))) := ⟨fun X hX H K w v u rv ru Q k => by
  cases rv; cases ru
  exact cO_of op_eq ⟨rfl, k _ H K Gw.refl w (dec_I (i := i) (j := j) ▸ .bl _)⟩⟩
theorem po_neI : PO2 c (compareOp .NotEq) (.int i) (.int j) σ (.bl (!decide (i = j))) := ⟨fun X hX H K w v u rv ru Q k => by
  cases rv; cases ru
  exact cO_of op_ne ⟨rfl, k _ H K Gw.refl w (dec_I (i := i) (j := j) ▸ .bl _)⟩⟩
theorem po_eqS : PO2 c (compareOp .Eq) (.str a) (.str b) σ (.bl (decide (a = b))) := ⟨fun X hX H K w v u rv ru Q k => by
  cases rv; cases ru
  exact cO_of op_eq ⟨rfl, k _ H K Gw.refl w (dec_S (a := a) (b := b) ▸ .bl _)⟩⟩
theorem po_neS : PO2 c (compareOp .NotEq) (.str a) (.str b) σ (.bl (!decide (a = b))) := ⟨fun X hX H K w v u rv ru Q k => by
  cases rv; cases ru
  exact cO_of op_ne ⟨rfl, k _ H K Gw.refl w (dec_S (a := a) (b := b) ▸ .bl _)⟩⟩
def isNon : DT → Bool
  | .non => true
  | _ => false
theorem rep_non {F : PySem.W.Frag} {H : Hp} {v : V} {d : DT} (r : Rep F H v d) : decide (v = .non) = isNon d := by
  cases r <;> rfl
theorem po_isN : PO2 c (compareOp .Is) x .non σ (.bl (isNon x)) := ⟨fun X hX H K w v u rv ru Q k => by
  cases ru
  exact cO_of op_isN ⟨rfl, k _ H K Gw.refl w (rep_non rv ▸ .bl _)⟩⟩
theorem po_notN : PO2 c (compareOp .IsNot) x .non σ (.bl (!isNon x)) := ⟨fun X hX H K w v u rv ru Q k => by
  cases ru
  exact cO_of op_notN ⟨rfl, k _ H K Gw.refl w (rep_non rv ▸ .bl _)⟩⟩
theorem po_isB {a b : Bool} : PO2 c (compareOp .Is) (.bl a) (.bl b) σ (.bl (decide (a = b))) := ⟨fun X hX H K w v u rv ru Q k => by
  cases rv; cases ru
  exact cO_of op_isBl ⟨a, b, rfl, rfl, k _ H K Gw.refl w (.bl _)⟩⟩
theorem po_notB {a b : Bool} : PO2 c (compareOp .IsNot) (.bl a) (.bl b) σ (.bl (!decide (a = b))) := ⟨fun X hX H K w v u rv ru Q k => by
  cases rv; cases ru
  exact cO_of op_notBl ⟨a, b, rfl, rfl, k _ H K Gw.refl w (.bl _)⟩⟩
/-! ### texts -/
theorem po_addS (h : a.length + b.length ≤ 16777216) : PO2 c (binaryOp .Add) (.str a) (.str b) σ (.str (a ++ b)) := ⟨fun X hX H K w v u rv ru Q k => by
  cases rv; cases ru
  exact cO_of op_add_str ⟨S a, S b, rfl, rfl, by rw [S_len, S_len, sizeLine_eq]; exact h, by rw [S_cat]; exact k _ H K Gw.refl w (.str _)⟩⟩
theorem po_inS {z : Nat} : PO2 c (compareOp .In) (.str [z]) (.str b) σ (.bl (decide (z ∈ b))) := ⟨fun X hX H K w v u rv ru Q k => by
  cases rv; cases ru
  exact cO_of op_in_sign ⟨z, S b, rfl, rfl, k _ H K Gw.refl w (by rw [show decide (z ∈ (S b).cps.toList) = decide (z ∈ b) by simp [S]]; exact .bl _)⟩⟩
theorem po_ltS : PO2 c (compareOp .Lt) (.str a) (.str b) σ (.bl (decide (a < b))) := ⟨fun X hX H K w v u rv ru Q k => by
  cases rv; cases ru
  exact cO_of op_lt_str ⟨S a, S b, rfl, rfl, k _ H K Gw.refl w (by simp only [S]; exact .bl _)⟩⟩
theorem po_gtS : PO2 c (compareOp .Gt) (.str a) (.str b) σ (.bl (decide (b < a))) := ⟨fun X hX H K w v u rv ru Q k => by
  cases rv; cases ru
  exact cO_of op_gt_str ⟨S a, S b, rfl, rfl, k _ H K Gw.refl w (by simp only [S]; exact .bl _)⟩⟩
theorem po_mulS (h1 : -1000000 ≤ i) (h2 : i ≤ 1000000) (h : a.length * i.toNat ≤ 16777216) : PO2 c (binaryOp .Mult) (.str a) (.int i) σ (.str (List.replicate i.toNat a).flatten) := ⟨fun X hX H K w v u rv ru Q k => by
  cases rv; cases ru
  intro pins s st v u I rx ry
  obtain ⟨t, rfl⟩ := rx
  obtain ⟨t', rfl⟩ := ry
  refine SB.mul ⟨?_, fun h3 _ => ?_, fun h3 _ => ?_⟩ fun t2 k2 => ⟨.str _, K, I.tok k2, ⟨t2, rfl⟩, by rw [mul_S]; exact k _ H K Gw.refl w (.str _)⟩
  · rw [decide_eq_false (by omega), decide_eq_false (by omega)]
    rfl
  · rw [S_len]
    have e1 : (a.length : Int) * i ≤ 16777216 := by
      have : ((a.length * i.toNat : Nat) : Int) ≤ 16777216 := Int.ofNat_le.mpr h
      rw [Int.natCast_mul, Int.toNat_of_nonneg (by omega)] at this
      exact this
    have e2 : (a.length : Int) ≤ (2 ^ 63 - 1) / i := (Int.le_ediv_iff_mul_le (by omega)).mpr (by omega)
    omega
  · rw [S_len]
    show Builtin.Str.tooLong _ = false
    unfold Builtin.Str.tooLong
    exact decide_eq_false (by rw [sizeLine_eq]; omega)⟩
/-! ### lists -/
theorem po_cat (hx : LsX σ x xs) (hy : LsX σ y ys) (h : xs.length + ys.length ≤ 16777216) : PO2 c (binaryOp .Add) x y σ (.lst (xs ++ ys)) := ⟨fun X hX H K w v u rv ru Q k => by
  obtain ⟨a, vs, rfl, q1, r1⟩ := hx.now w rv
  obtain ⟨b, us, rfl, q2, r2⟩ := hy.now w ru
  refine cO_of op_cat ⟨a, b, vs, us, rfl, rfl, q1, q2, by rw [r1.length, r2.length, sizeLine_eq]; exact h, fun p hp => ?_⟩
  obtain ⟨g, w2⟩ := w.new (o := .lst (vs ++ us)) hp
  exact k _ _ _ g w2 (.lst upd_same ((r1.append r2).same g.b))⟩
theorem po_rep (hx : LsX σ x xs) (h1 : -1000000 ≤ i) (h2 : i ≤ 1000000) (h : xs.length * i.toNat ≤ 16777216) : PO2 c (binaryOp .Mult) x (.int i) σ (.lst (List.replicate i.toNat xs).flatten) := ⟨fun X hX H K w v u rv ru Q k => by
  obtain ⟨a, vs, rfl, q1, r1⟩ := hx.now w rv
  cases ru
  refine cO_of op_rep ⟨a, i, vs, rfl, rfl, q1, by omega, by omega, by rw [r1.length, sizeLine_eq]; exact h, fun p hp => ?_⟩
  obtain ⟨g, w2⟩ := w.new (o := .lst (List.replicate i.toNat vs).flatten) hp
  exact k _ _ _ g w2 (.lst upd_same ((r1.rep _).same g.b))⟩
/-! ### subscripts, slices -/
theorem rep_at {F : PySem.W.Frag} {H : Hp} {vs : List V} {ds : List DT} (r : RepA F H vs ds) {i : Int} {d : DT} (h : atI ds i = some d) : ∃ u, atI vs i = some u ∧ Rep F H u d := by
  unfold atI at h ⊢
  rw [r.length]
  cases e : ixN ds.length i with
  | none => rw [e] at h; cases h
  | some j =>
    rw [e] at h
    obtain ⟨u, h1, h2⟩ := r.get (i := j) h
    exact ⟨u, h1, h2⟩
theorem pi_lst (hx : LsT σ x xs) (h : atI xs i = some d) : POI c x (.int i) σ d := ⟨fun X hX H K w v u rv ru Q k => by
  have hX' := hX
  cases hX'
  obtain ⟨a, vs, rfl, q1, r1⟩ := hx.now w rv
  cases ru
  obtain ⟨z, h1, h2⟩ := rep_at r1 h
  exact cI_of ix_list ⟨a, vs, i, z, rfl, rfl, q1, h1, k _ H K Gw.refl w h2⟩⟩
theorem pi_tup (h : atI xs i = some d) : POI c (.tup xs) (.int i) σ d := ⟨fun X hX H K w v u rv ru Q k => by
  have hX' := hX
  cases hX'
  obtain ⟨a, vs, rfl, q1, r1⟩ := rep_tup w rv
  cases ru
  obtain ⟨z, h1, h2⟩ := rep_at r1 h
  exact cI_of ix_tup ⟨a, vs, i, z, rfl, rfl, q1, h1, k _ H K Gw.refl w h2⟩⟩
theorem pi_str {z : Nat} (hz : a.length ≤ 16777216) (h : atI a i = some z) : POI c (.str a) (.int i) σ (.str [z]) := ⟨fun X hX H K w v u rv ru Q k => by
  cases rv; cases ru
  exact cI_of ix_str ⟨S a, i, z, rfl, rfl, by rw [S_len, sizeLine_eq]; exact hz, by simpa [S] using h, k _ H K Gw.refl w (.str [z])⟩⟩
def cutT (xs : List DT) (lo hi : Option Int) : List DT := (xs.drop (HT.sIx xs.length 0 lo)).take (HT.sIx xs.length xs.length hi - HT.sIx xs.length 0 lo)
theorem rep_cut {F : PySem.W.Frag} {H : Hp} {vs : List V} {ds : List DT} (r : RepA F H vs ds) (lo hi : Option Int) : RepA F H (cutV vs lo hi) (cutT ds lo hi) := by
  unfold cutV cutT
  rw [r.length]
  exact (r.drop _).take _
theorem pl_lst {lo hi : Option Int} (hx : LsT σ x xs) : POL c x lo hi σ (.lst (cutT xs lo hi)) := ⟨fun X hX H K w v rv Q k => by
  have hX' := hX
  cases hX'
  obtain ⟨a, vs, rfl, q1, r1⟩ := hx.now w rv
  refine cL_of sl_list ⟨a, vs, rfl, q1, fun p hp => ?_⟩
  obtain ⟨g, w2⟩ := w.new (o := .lst (cutV vs lo hi)) hp
  exact k _ _ _ g w2 (.lst upd_same ((rep_cut r1 lo hi).same g.b))⟩
theorem pl_tup {lo hi : Option Int} (hw : ¬ (HT.sIx xs.length 0 lo = 0 ∧ HT.sIx xs.length xs.length hi = xs.length)) : POL c (.tup xs) lo hi σ (.tup (cutT xs lo hi)) := ⟨fun X hX H K w v rv Q k => by
  have hX' := hX
  cases hX'
  obtain ⟨a, vs, rfl, q1, r1⟩ := rep_tup w rv
  refine cL_of sl_tup ⟨a, vs, rfl, q1, by rw [r1.length]; exact hw, fun p hp => ?_⟩
  obtain ⟨g, w2⟩ := w.new (o := .tup (cutV vs lo hi)) hp
  exact k _ _ _ g w2 (.tup (SqT.of upd_same) ((rep_cut r1 lo hi).same g.b))⟩
theorem pl_str {lo hi : Option Int} (hz : a.length ≤ 16777216) : POL c (.str a) lo hi σ (.str (cutN a lo hi)) := ⟨fun X hX H K w v rv Q k => by
  cases rv
  exact cL_of sl_str ⟨S a, rfl, by rw [S_len, sizeLine_eq]; exact hz, by rw [cutS_S]; exact k _ H K Gw.refl w (.str _)⟩⟩
/-! ### built-in functions -/
theorem repA_one {F : PySem.W.Frag} {H : Hp} {vs : List V} {x : DT} (r : RepA F H vs [x]) : ∃ v, vs = [v] ∧ Rep F H v x := by
  cases r with
  | cons h t => cases t; exact ⟨_, rfl, h⟩
theorem repA_two {F : PySem.W.Frag} {H : Hp} {vs : List V} {x y : DT} (r : RepA F H vs [x, y]) : ∃ v u, vs = [v, u] ∧ Rep F H v x ∧ Rep F H u y := by
  cases r with
  | cons h t =>
    obtain ⟨u, rfl, h2⟩ := repA_one t
    exact ⟨_, u, rfl, h, h2⟩
theorem pf_lenS (hz : a.length ≤ 16777216) : POF c (.builtin "len") [.str a] σ (.int (a.length : Int)) := ⟨fun X hX H K w vs r Q k => by
  obtain ⟨v, rfl, rv⟩ := repA_one r
  cases rv
  exact cF_of call_len_str ⟨S a, rfl, by rw [S_len, sizeLine_eq]; exact hz, by rw [S_len]; exact k _ H K Gw.refl w (.int _)⟩⟩
theorem pf_lenL (hx : LsT σ x xs) : POF c (.builtin "len") [x] σ (.int (xs.length : Int)) := ⟨fun X hX H K w vs r Q k => by
  have hX' := hX
  cases hX'
  obtain ⟨v, rfl, rv⟩ := repA_one r
  obtain ⟨a, vs, rfl, q1, r1⟩ := hx.now w rv
  exact cF_of call_len_seq ⟨a, vs, rfl, .inl q1, k _ H K Gw.refl w (r1.length ▸ .int _)⟩⟩
theorem pf_lenT : POF c (.builtin "len") [.tup xs] σ (.int (xs.length : Int)) := ⟨fun X hX H K w vs r Q k => by
  have hX' := hX
  cases hX'
  obtain ⟨v, rfl, rv⟩ := repA_one r
  obtain ⟨a, vs, rfl, q1, r1⟩ := rep_tup w rv
  exact cF_of call_len_seq ⟨a, vs, rfl, .inr q1, k _ H K Gw.refl w (r1.length ▸ .int _)⟩⟩
theorem pf_min2 [Calm c] : POF c (.builtin "min") [.int i, .int j] σ (.int (min i j)) := ⟨fun X hX H K w vs r Q k => by
  obtain ⟨v, u, rfl, rv, ru⟩ := repA_two r
  cases rv; cases ru
  cases hX with
  | mk _ k' Wx fa hpp hrH hcf hh hp' htk hf' hN hU hst =>
    obtain rfl : hpp = none := ‹Calm _›.h
    obtain ⟨hc, hr⟩ := hcf rfl
    refine cF_of (call_min2 hc) ⟨i, j, rfl, k _ H K Gw.refl w ?_⟩
    by_cases hlt : j < i
    · rw [if_pos hlt, show min i j = j by omega]; exact .int _
    · rw [if_neg hlt, show min i j = i by omega]; exact .int _⟩
theorem pf_max2 [Calm c] : POF c (.builtin "max") [.int i, .int j] σ (.int (max i j)) := ⟨fun X hX H K w vs r Q k => by
  obtain ⟨v, u, rfl, rv, ru⟩ := repA_two r
  cases rv; cases ru
  cases hX with
  | mk _ k' Wx fa hpp hrH hcf hh hp' htk hf' hN hU hst =>
    obtain rfl : hpp = none := ‹Calm _›.h
    obtain ⟨hc, hr⟩ := hcf rfl
    refine cF_of (call_max2 hc) ⟨i, j, rfl, k _ H K Gw.refl w ?_⟩
    by_cases hlt : j > i
    · rw [if_pos hlt, show max i j = j by omega]; exact .int _
    · rw [if_neg hlt, show max i j = i by omega]; exact .int _⟩
theorem repA_map {F : PySem.W.Frag} {H : Hp} {α : Type} (f : α → V) (g : α → DT) (hf : ∀ a u, Rep F H u (g a) → u = f a) : ∀ {l : List α} {vs : List V}, RepA F H vs (l.map g) → vs = l.map f
  | [], _, .nil => rfl
  | a :: l, _, .cons h t => by rw [hf a _ h, repA_map f g hf t]; rfl
theorem repA_of {F : PySem.W.Frag} {H : Hp} {α : Type} (f : α → V) (g : α → DT) (hf : ∀ a, Rep F H (f a) (g a)) : ∀ l : List α, RepA F H (l.map f) (l.map g)
  | [] => .nil
  | a :: l => .cons (hf a) (repA_of f g hf l)
theorem repA_ints {F : PySem.W.Frag} {H : Hp} {ns : List Int} {vs : List V} (r : RepA F H vs (ns.map DT.int)) : vs = ns.map V.int := repA_map V.int DT.int (fun a u h => by cases h; rfl) r
theorem repA_bls {F : PySem.W.Frag} {H : Hp} {ns : List Bool} {vs : List V} (r : RepA F H vs (ns.map DT.bl)) : vs = ns.map V.bl := repA_map V.bl DT.bl (fun a u h => by cases h; rfl) r
theorem repA_strs {F : PySem.W.Frag} {H : Hp} {ns : List (List Nat)} {vs : List V} (r : RepA F H vs (ns.map DT.str)) : vs = ns.map fun z => V.str (S z) := repA_map _ DT.str (fun a u h => by cases h; rfl) r
theorem pf_all [Calm c] {bs : List Bool} (hx : LsT σ x (bs.map DT.bl)) : POF c (.builtin "all") [x] σ (.bl (bs.all id)) := ⟨fun X hX H K w vs r Q k => by
  have hX' := hX
  cases hX' with
  | mk _ k' Wx fa hpp hrH hcf hh hp' htk hf' hN hU hst =>
    obtain rfl : hpp = none := ‹Calm _›.h
    obtain ⟨hc, hr⟩ := hcf rfl
    obtain ⟨v, rfl, rv⟩ := repA_one r
    obtain ⟨a, vs, rfl, q1, r1⟩ := hx.now w rv
    rw [repA_bls r1] at q1
    exact cF_of (cr_all hc) ⟨a, bs, rfl, q1, k _ H K Gw.refl w (.bl _)⟩⟩
theorem pf_sum [Calm c] {ns : List Int} (hx : LsT σ x (ns.map DT.int)) : POF c (.builtin "sum") [x] σ (.int ns.sum) := ⟨fun X hX H K w vs r Q k => by
  have hX' := hX
  cases hX' with
  | mk _ k' Wx fa hpp hrH hcf hh hp' htk hf' hN hU hst =>
    obtain rfl : hpp = none := ‹Calm _›.h
    obtain ⟨hc, hr⟩ := hcf rfl
    obtain ⟨v, rfl, rv⟩ := repA_one r
    obtain ⟨a, vs, rfl, q1, r1⟩ := hx.now w rv
    rw [repA_ints r1] at q1
    exact cF_of (cr_sum hc) ⟨a, ns, rfl, q1, k _ H K Gw.refl w (.int _)⟩⟩
theorem pf_intB {b : Bool} : POF c (.type "int") [.bl b] σ (.int (if b then 1 else 0)) := ⟨fun X hX H K w vs r Q k => by
  obtain ⟨v, rfl, rv⟩ := repA_one r
  cases rv
  exact cF_of call_int1 (.inr ⟨b, rfl, k _ H K Gw.refl w (.int _)⟩)⟩
theorem pf_listL (hx : LsT σ x xs) : POF c (.type "list") [x] σ (.lst xs) := ⟨fun X hX H K w vs r Q k => by
  have hX' := hX
  cases hX'
  obtain ⟨v, rfl, rv⟩ := repA_one r
  obtain ⟨a, vs, rfl, q1, r1⟩ := hx.now w rv
  refine cF_of call_list_of ⟨a, vs, rfl, .inl q1, fun p hp => ?_⟩
  obtain ⟨g, w2⟩ := w.new (o := .lst vs) hp
  exact k _ _ _ g w2 (.lst upd_same (r1.same g.b))⟩
theorem pf_listT : POF c (.type "list") [.tup xs] σ (.lst xs) := ⟨fun X hX H K w vs r Q k => by
  have hX' := hX
  cases hX'
  obtain ⟨v, rfl, rv⟩ := repA_one r
  obtain ⟨a, vs, rfl, q1, r1⟩ := rep_tup w rv
  refine cF_of call_list_of ⟨a, vs, rfl, .inr q1, fun p hp => ?_⟩
  obtain ⟨g, w2⟩ := w.new (o := .lst vs) hp
  exact k _ _ _ g w2 (.lst upd_same (r1.same g.b))⟩
/-- what a value's class is -/
def tyT (σ : Sg) : DT → Option String
  | .non => some "NoneType"
  | .bl _ => some "bool"
  | .int _ => some "int"
  | .str _ => some "str"
  | .lst _ => some "list"
  | .tup _ => some "tuple"
  | .dct _ => some "dict"
  | .ref p => match σ p with | some (.lst _) => some "list" | some (.dct _) => some "dict" | _ => none
  | _ => none
theorem tyT_x {F : PySem.W.Frag} {H K : Hp} {v : V} {t : String} (w : Wd F H σ K) (r : Rep F H v x) (h : tyT σ x = some t) : TyX F K v (.type t) := by
  cases r with
  | non => cases h; exact .base .non
  | bl b => cases h; exact .base (.bl b)
  | int i => cases h; exact .base (.int i)
  | str s => cases h; exact .base (.str _)
  | lst e _ => cases h; exact .base (.lst (w.le _ _ e))
  | seq => cases h
  | tup e _ =>
    cases h
    rcases same_sqt w.le e with (z | ⟨o, z⟩) | ⟨o, xs, n, z, hc, _⟩
    · exact .base (.tup z)
    · exact .fTuple z
    · exact .kTuple z hc
  | dct e _ => cases h; exact .fDict (w.le _ _ e)
  | obj => cases h
  | ref p =>
    unfold tyT at h
    cases e : σ p with
    | none => simp [e] at h
    | some cc =>
      simp only [e] at h
      cases cc with
      | lst ds =>
        cases h
        obtain ⟨vs, e2, _⟩ := w.on p _ e
        exact .base (.lst e2)
      | dct ds =>
        cases h
        obtain ⟨vs, e2, _⟩ := w.on p _ e
        exact .base (.dK e2)
      | obj C fs => cases h
  | ty n => cases h
  | exc0 e => cases h
  | exc1 e e2 _ => cases h
  | hot0 => cases h
  | hot1 => cases h
theorem pf_isi {t u : String} {r : Bool} (h : tyT σ x = some t) (e : kitB t u = some r) : POF c (.builtin "isinstance") [x, .ty u] σ (.bl r) := ⟨fun X hX H K w vs ra Q k => by
  have hX' := hX
  cases hX'
  obtain ⟨v, u2, rfl, rv, ru⟩ := repA_two ra
  cases ru
  exact cF_of call_isi ⟨v, .ty u, .type t, .type u, r, rfl, .ty u, tyT_x w rv h, kit_ty e, k _ H K Gw.refl w (.bl _)⟩⟩
/-! ### methods -/
theorem ty_str : TyIs c "str" σ (.str a) := fun X hX H K w x rx pins st s v I r => by
  cases rx
  obtain ⟨t, rfl⟩ := r
  exact ⟨typeIs_str s _ t, fun _ e => nomatch e⟩
theorem ty_lst (hx : LsT σ x xs) : TyIs c "list" σ x := fun X hX H K w v rx pins st s u I r => by
  have hX' := hX
  cases hX'
  obtain ⟨a, vs, rfl, q1, r1⟩ := hx.now w rx
  exact tyV_is I r (.inl ⟨rfl, vs, q1⟩)
theorem pm_join {parts : List (List Nat)} (hx : LsT σ x (parts.map DT.str)) (hz : (parts.map (·.length)).sum + parts.length * a.length ≤ 16777216) : POM c "str.join" (.str a) [x] σ (.str (TL.joinL a parts)) := ⟨fun {Q} q => ⟨fun X hX H K w v vs rv ra Q' fo => by
  have hX' := hX
  cases hX'
  cases rv
  obtain ⟨u, rfl, ru⟩ := repA_one ra
  obtain ⟨b, us, rfl, q1, r1⟩ := hx.now w ru
  rw [repA_strs r1] at q1
  have e1 : (parts.map fun z => V.str (S z)) = (parts.map S).map V.str := by rw [List.map_map]; rfl
  rw [e1] at q1
  refine cM_of mt_join ⟨S a, b, parts.map S, rfl, rfl, .inl q1, ?_, ?_⟩
  · rw [lens, List.length_map, S_len]
    exact hz
  · rw [join_S]
    exact fo _ _ σ H K Gw.refl w (.str _) q⟩⟩
end
end Y

namespace Y
open PySem PySem.Spec PyProof.Rows L2 Z
/-- what the caller of the law is told at the end -/
abbrev LawEnd (s1 : Shared) : Result → Shared → Prop := fun r s2 => r = .ok (.ret (.bool true)) ∧ OldK s1.heap s2.heap ∧ s2.os = s1.os ∧ AllBare s2.gens
section
variable {P : Program} {w : World} {F : PySem.W.Frag} {mg mb : Str → Option Value} {k : Nat} {fa a : Addr} {fd : FuncData} {x : Str} {sp : Sp} {s1 : Shared} {vs : List Value} {ns : List Int} {H : Hp}
/-- the law's promise at a heap in which the script alone may be tracked -/
theorem law_in (smm : ∃ mm, s1.heap.Ns sysModules mm) (inn : F.In s1.heap) (hns : s1.heap.Ns mainGlobals mg) (hb : s1.heap.Ns builtinsNs mb) (hbb : ∀ x : Str, x ≠ "__name__" → mb x = bootBuiltins x) (lim : s1.heap.NoLimit) (bare : s1.gens = #[])
    (ha : s1.heap.get? a = some { cls := .type "list", data := .seq vs.toArray }) (hr : Room k callerA) (G : ∀ base : Heap, F.In base → base.Ns mainGlobals mg → (∃ ob, base.get? sysModules = some ob) → FnG P w F mg base k fa fd [x] sp)
    (hbind : ∀ (s : Shared) (u : Value), BindsTo s fd ⟨[u], []⟩ [(x, u)]) (hsp : sp [.ref a] H (fun v _ => v = .bl true) fun _ _ _ => False)
    (only : Only H) (hok : HOk P w H s1.heap) (one : ∀ b, H b ≠ none → b = a) (notF : H a ≠ none → F.lookup a = none) : codeAny (model P w) callerA (.call (.ref fa) ⟨[.ref a], []⟩) (LawEnd s1) s1 := by
  have away : ∀ {b : Addr} {o : Obj}, s1.heap.get? b = some o → o.data ≠ .seq vs.toArray → H b = none := fun {b o} e d => by
    cases q : H b with
    | none => rfl
    | some u =>
      obtain rfl := one b (by rw [q]; exact Option.some_ne_none _)
      rw [ha] at e
      cases e
      exact absurd rfl d
  have names : ∀ {b : Addr} {m : Str → Option Value}, s1.heap.Ns b m → (hidT s1.heap H).Ns b m := fun {b m} h => by
    obtain ⟨o, es, ep, e, d, r⟩ := h
    exact ⟨o, es, ep, hidT_get e (away e (by rw [d]; exact fun z => nomatch z)), d, r⟩
  have innB : F.In (hidT s1.heap H) := fun b o e => hidT_get (inn b o e) (by
    cases q : H b with
    | none => rfl
    | some u =>
      have ne : H b ≠ none := by rw [q]; exact Option.some_ne_none _
      obtain rfl := one b ne
      rw [notF ne] at e
      cases e)
  obtain ⟨mc, l1, l2⟩ := lim
  have e0 : Env0 P w F mg (hidT s1.heap H) callerA [] s1 H := ⟨rfl, ⟨innB, names hns, ⟨mb, names hb, hbb⟩, ⟨mc, names l1, l2⟩⟩, fun b o e => of_hidT e, Nat.le_of_eq (hidT_size _ _), trivial, fun b z => absurd z (List.not_mem_nil), hok, .of_eq bare⟩
  refine codeAny_mono ((G _ innB (names hns) (let ⟨_, q⟩ := smm; let ⟨o, _, _, e, _⟩ := names q; ⟨o, e⟩)).calm callerA hr rfl [] s1 H e0 ⟨[.ref a], []⟩ [.ref a] [.ref a] (.cons rfl .nil) (hbind s1 (.ref a)) _ _ hsp) fun r s2 z => ?_
  match r, z with
  | .error e, z =>
    obtain ⟨_, _, _, _, _, _, _, _, _, _, _, _, n⟩ := z
    exact n.elim
  | .ok .next, z => exact z.elim
  | .ok .brk, z => exact z.elim
  | .ok .cont, z => exact z.elim
  | .ok (.ret u), ⟨v, H2, e1, e2, un, ok2, r2, q2⟩ =>
    subst q2
    obtain rfl : u = Value.bool true := r2
    refine ⟨rfl, OldK.of_keep fun b o e => ?_, e1, e2⟩
    rcases only b with q | ⟨ob, xs, q⟩
    · exact un.keep b o e q (by intro z; exact absurd (show b ∈ ([] : List Addr) from z) List.not_mem_nil) (by simp)
    · have f1 := (hok b _ q).1
      rw [f1] at e
      cases e
      exact (ok2 b _ (un.frzs b _ _ q)).1
/-- the law's call -/
theorem law_run (smm : ∃ mm, s1.heap.Ns sysModules mm) (inn : F.In s1.heap) (hns : s1.heap.Ns mainGlobals mg) (hb : s1.heap.Ns builtinsNs mb) (hbb : ∀ x : Str, x ≠ "__name__" → mb x = bootBuiltins x) (lim : s1.heap.NoLimit) (bare : s1.gens = #[])
    (ha : s1.heap.get? a = some { cls := .type "list", data := .seq vs.toArray }) (hi : IntsAre vs ns) (hl : ns.length ≤ sizeLine) (hr : Room k callerA)
    (G : ∀ base : Heap, F.In base → base.Ns mainGlobals mg → (∃ ob, base.get? sysModules = some ob) → FnG P w F mg base k fa fd [x] sp) (hbind : ∀ (s : Shared) (u : Value), BindsTo s fd ⟨[u], []⟩ [(x, u)])
    (hsp : ∀ H : Hp, Only H → SqL F H a (ns.map V.int) → sp [.ref a] H (fun v _ => v = .bl true) fun _ _ _ => False) : codeAny (model P w) callerA (.call (.ref fa) ⟨[.ref a], []⟩) (LawEnd s1) s1 := by
  have rv := vals_ints hi
  cases hk : F.lookup a with
  | some o =>
    obtain rfl := Option.some.inj ((inn a o hk).symm.trans ha)
    have on : Only fun _ => none := fun _ => .inl rfl
    refine law_in (H := fun _ => none) smm inn hns hb hbb lim bare ha hr G hbind (hsp _ on (.inr ⟨_, vs.toArray, _, hk, rfl, rfl, rfl, ?_, by simpa using rv⟩)) on (fun _ _ z => nomatch z) (fun _ z => absurd rfl z) (fun z => absurd rfl z)
    rw [List.size_toArray, hi.length]
    exact hl
  | none =>
    let u : HO := .frz { cls := .type "list", data := .seq vs.toArray } (.lst (ns.map V.int))
    have at_a : (upd (fun _ => none) a u : Hp) a = some u := upd_same
    have off : ∀ b, b ≠ a → (upd (fun _ => none) a u : Hp) b = none := fun b z => upd_ne z
    have on : Only (upd (fun _ => none) a u) := fun b => by
      by_cases e : b = a
      · subst e
        exact .inr ⟨_, _, at_a⟩
      · exact .inl (off b e)
    refine law_in (H := upd (fun _ => none) a u) smm inn hns hb hbb lim bare ha hr G hbind (hsp _ on (.inl (.inr ⟨_, at_a⟩))) on (fun b q z => ?_) (fun b z => Decidable.byContradiction fun e => z (off b e)) (fun _ => hk)
    by_cases e : b = a
    · subst e
      rw [at_a] at z
      cases z
      exact ⟨ha, by rw [List.length_map]; exact hl, vs, _, rv, ha⟩
    · rw [off b e] at z
      cases z
end
/-- the goal that the head leaves, from the law's promise; the script's ints are of at most 1048576 bits -/
theorem walkG {l : PySem.W.OpenLaw} {n k : Nat} {q : Program} {loose : List Str} {XP : (Str → Option Value) → Heap → Prop} {YP : World → Heap → Prop} {d : DefRec} {K : Params → PySem.W.Frag} {sp : World → Sp} {x : Str}
    (hi : importsNone q = true) (hn : l.most = some n) (hn2 : n ≤ sizeLine) (hdf : d.params.defaults = []) (hr : Room k callerA) (hY : ∀ (w : World) (h : Heap), YP w h → (K w.params).In h)
    (G : ∀ (w : World) (mg : Str → Option Value) (fa : Addr) (h : Heap), (K w.params).In h → h.Ns mainGlobals mg → mg d.name = some (.ref fa) →
      ∃ fd : FuncData, (∀ (s : Shared) (u : Value), BindsTo s fd ⟨[u], []⟩ [(x, u)]) ∧ ∀ base : Heap, (K w.params).In base → base.Ns mainGlobals mg → (∃ ob, base.get? sysModules = some ob) → FnG l.prog w (K w.params) mg base k fa fd [x] (sp w))
    (hsp : ∀ (w : World) (H : Hp) (a : Addr) (ns : List Int), ns.length ≤ n → (∀ z ∈ ns, Builtin.Int.intBits z ≤ 1048576) → Only H → SqL (K w.params) H a (ns.map V.int) → sp w [.ref a] H (fun v _ => v = .bl true) fun _ _ _ => False) :
    PySem.W.WalkO q loose XP YP l.row.toRowW d [] (fun f vs => PySem.call f vs) := by
  refine Att.attach_callB hn hdf fun w s0 s1 mg mb fa o pm cd doc a vs ns B Y ho hd hcd hmg hobj hints hlen hbits hg => ?_
  obtain ⟨fd, b, g⟩ := G w mg fa _ (hY w _ Y) B.T.g hmg
  exact law_run (let ⟨mm, q, _⟩ := (B.T.seer hi).mods; ⟨mm, q⟩) (hY w _ Y) B.T.g B.T.b B.T.builtins B.T.nolimit hg hobj hints (Nat.le_trans hlen hn2) hr g b fun H on s => hsp w H a ns hlen hbits on s
end Y

/-! Y6: trees as data (repr, ==), comprehensions by values, stores into cells, the law's head. -/
namespace Y
open PySem PySem.Spec L2 SX Z
open PyProof.Rows (subscriptTail)
/-! ### trees as data -/
def keyPy : DK → PyData
  | .inl i => .int i
  | .inr s => .str (S s)
mutual
def toPy : DT → PyData
  | .non => .none
  | .bl b => .bool b
  | .int i => .int i
  | .str s => .str (S s)
  | .lst xs => .list (toPyA xs)
  | .tup xs => .tuple (toPyA xs)
  | .dct kvs => .dict (toPyK kvs)
  | .seq _ => .none
  | .obj _ _ => .none
  | .ref _ => .none
  | .ty _ => .none
  | .exc _ _ => .none
  | .hot _ _ _ => .none
def toPyA : List DT → List PyData
  | [] => []
  | x :: xs => toPy x :: toPyA xs
def toPyK : List (DK × DT) → List (PyData × PyData)
  | [] => []
  | (k, d) :: r => (keyPy k, toPy d) :: toPyK r
end
mutual
def plain : DT → Bool
  | .lst xs => plainA xs
  | .tup xs => plainA xs
  | .dct kvs => plainK kvs
  | .seq _ => false
  | .obj _ _ => false
  | .ref _ => false
  | .ty _ => false
  | .exc _ _ => false
  | .hot _ _ _ => false
  | _ => true
def plainA : List DT → Bool
  | [] => true
  | x :: xs => plain x && plainA xs
def plainK : List (DK × DT) → Bool
  | [] => true
  | (_, d) :: r => plain d && plainK r
end
section
variable {X : Cx} {pins : List (Addr × Obj)} {st : L2.St} {H K : Hp} {σ : Sg} {s : Shared}
theorem not_sm {a : Addr} {o : HO} (I : Inv X pins st K s) (sm : ∃ ob, X.base.get? sysModules = some ob) (e : K a = some o) : a ≠ sysModules := fun z => by
  obtain ⟨ob, h⟩ := sm
  have := (I.bs _ _ h).2
  rw [← z, e] at this
  cases this
theorem keyReads {h : Heap} {k : DK} {v : Value} (p : keyIs (keyD k) v = true) : Reads h v (keyPy k) [] := by
  cases k with
  | inl i =>
    obtain ⟨t, z⟩ := Value.isInt_shape (k := i) p
    rw [z]
    exact .int i t
  | inr x =>
    obtain ⟨t, z⟩ := Value.isStrOf_shape (x := S x) p
    rw [z]
    exact .str _ t
mutual
theorem Rep.reads (w : Wd X.K H σ K) (I : Inv X pins st K s) (sm : ∃ ob, X.base.get? sysModules = some ob) : ∀ (d : DT) (v : V) (u : Value), Rep X.K H v d → plain d = true → RelV v u → ∃ as, Reads s.heap u (toPy d) as ∧ sysModules ∉ as
  | .non, _, _, h, _, r => by cases h; cases r; exact ⟨_, .none, by simp⟩
  | .bl b, _, _, h, _, r => by cases h; cases r; exact ⟨_, .bool b, by simp⟩
  | .int i, _, _, h, _, r => by cases h; obtain ⟨t, rfl⟩ := r; exact ⟨_, .int i t, by simp⟩
  | .str x, _, _, h, _, r => by cases h; obtain ⟨t, rfl⟩ := r; exact ⟨_, .str _ t, by simp⟩
  | .lst ds, _, _, h, p, r => by
    cases h with
    | lst hs ra =>
      cases r
      have e := w.le _ _ hs
      obtain ⟨_, its, n, rv, ho⟩ := I.hok _ _ e
      obtain ⟨as, hr, hn⟩ := Rep.readsA w I sm ds _ its ra p rv
      exact ⟨_, .list ho rfl rfl hr, fun z => by
        rcases List.mem_cons.mp z with z | z
        · exact not_sm I sm e z.symm
        · exact hn z⟩
  | .tup ds, _, _, h, p, r => by
    cases h with
    | tup hs ra =>
      cases r
      obtain ⟨its, rv, ⟨o, ho, hc, n, hd⟩, _⟩ := I.tuple (same_sqt w.le hs)
      obtain ⟨as, hr, hn⟩ := Rep.readsA w I sm ds _ its ra p rv
      exact ⟨_, .tuple ho hc hd hr, hn⟩
  | .dct kvs, _, _, h, p, r => by
    cases h with
    | dct hs ra =>
      cases r
      have e := w.le _ _ hs
      obtain ⟨_, _, hsm, vs, kv, o, es, ep, ho, hex, hd, _, hp, _⟩ := I.hok _ _ e
      obtain ⟨as, bs, h1, h2, n1, n2⟩ := Rep.readsK w I sm kvs _ vs es.toList ra p kv hp
      refine ⟨_, .dict ho hex.1 hd h1 h2, fun z => ?_⟩
      rcases List.mem_append.mp z with z | z
      · rcases List.mem_cons.mp z with z | z
        · exact not_sm I sm e z.symm
        · exact n1 z
      · exact n2 z
  | .seq _, _, _, _, p, _ => by cases p
  | .obj _ _, _, _, _, p, _ => by cases p
  | .ref _, _, _, _, p, _ => by cases p
  | .ty _, _, _, _, p, _ => by cases p
  | .exc _ _, _, _, _, p, _ => by cases p
  | .hot _ _ _, _, _, _, p, _ => by cases p
theorem Rep.readsA (w : Wd X.K H σ K) (I : Inv X pins st K s) (sm : ∃ ob, X.base.get? sysModules = some ob) : ∀ (ds : List DT) (vs : List V) (us : List Value), RepA X.K H vs ds → plainA ds = true → Vals vs us → ∃ as, ReadsAll s.heap us (toPyA ds) as ∧ sysModules ∉ as
  | [], _, _, h, _, r => by cases h; cases r; exact ⟨_, .nil, by simp⟩
  | d :: ds, _, _, h, p, r => by
    cases h with
    | cons h1 h2 =>
      cases r with
      | cons r1 r2 =>
        have p := Bool.and_eq_true_iff.mp (show (plain d && plainA ds) = true from p)
        obtain ⟨as, q1, n1⟩ := Rep.reads w I sm d _ _ h1 p.1 r1
        obtain ⟨bs, q2, n2⟩ := Rep.readsA w I sm ds _ _ h2 p.2 r2
        exact ⟨_, .cons q1 q2, fun z => (List.mem_append.mp z).elim n1 n2⟩
theorem Rep.readsK (w : Wd X.K H σ K) (I : Inv X pins st K s) (sm : ∃ ob, X.base.get? sysModules = some ob) : ∀ (ds : List (DK × DT)) (kvs : List (Key × V)) (vs : List (Key × Value)) (es : List DictEntry), RepK X.K H kvs ds → plainK ds = true → KV kvs vs → Pairs (mixKind X.prog X.w) es vs →
    ∃ as bs, ReadsAll s.heap (es.map (·.key)) ((toPyK ds).map (·.1)) as ∧ ReadsAll s.heap (es.map (·.val)) ((toPyK ds).map (·.2)) bs ∧ sysModules ∉ as ∧ sysModules ∉ bs
  | [], _, _, _, h, _, r, hp => by cases h; cases r; cases hp; exact ⟨_, _, .nil, .nil, by simp, by simp⟩
  | (k, d) :: ds, _, _, _, h, p, r, hp => by
    cases h with
    | cons h1 h2 =>
      cases r with
      | cons r1 r2 =>
        cases hp with
        | cons p1 p2 p3 =>
          have p := Bool.and_eq_true_iff.mp (show (plain d && plainK ds) = true from p)
          obtain ⟨e1, r1⟩ := r1
          rw [← p2] at r1
          obtain ⟨bs, q1, n1⟩ := Rep.reads w I sm d _ _ h1 p.1 r1
          obtain ⟨as, bs2, q2, q3, n2, n3⟩ := Rep.readsK w I sm ds _ _ _ h2 p.2 r2 p3
          rw [← e1] at p1
          have hk := keyReads (h := s.heap) (k := k) p1
          exact ⟨[] ++ as, _, .cons hk q2, .cons q1 q3, by simpa using n2, fun z => (List.mem_append.mp z).elim n1 n3⟩
end
end
section
variable {c : Ct} {ρ : EnvT} {σ : Sg} {x y d : DT} {e elt iter tg : Expr} {pos : Pos} {ifs : List Expr} {scope : Scope} {own : List (Str × Nat)} {t : TgS}
/-- repr of a list, a tuple, a dict -/
theorem pf_repr (sm : ∃ ob, c.base.get? sysModules = some ob) (hr : ∀ F H v, Rep F H v d → ∃ a, v = .ref a) (hp : plain d = true) (h1 : (toPy d).showable = true) (h3 : (toPy d).depth ≤ 64) (h4 : (toPy d).shown.length ≤ sizeLine) : POF c (.builtin "repr") [d] σ (.str (toPy d).shown.cps.toList) := ⟨fun X hX H K w vs ra Q k => by
  have hX' := hX
  cases hX' with
  | mk _ k' Wx fa hpp hrH hcf hh hp' htk hf' hN hU hst =>
    obtain ⟨v, rfl, rv⟩ := repA_one ra
    obtain ⟨a, rfl⟩ := hr _ _ _ rv
    intro pins s st us I r
    obtain ⟨u, rfl, ru⟩ := vals1 r
    cases ru
    obtain ⟨as, rd, nsm⟩ := Rep.reads w I sm d _ _ rv hp rfl
    refine repr_of_reads' rd h1 (fun _ => nsm) hU (by have := hrH.un; omega) (fun _ _ z => z) (fun h' u tk hk => ⟨.str _, K, I.kept hk, ⟨_, rfl⟩, k _ H K Gw.refl w ?_⟩) h4
    have := Rep.str (F := X.K) (H := H) (toPy d).shown.cps.toList
    rwa [S_tl] at this⟩
/-- == of data -/
theorem po_eqD (sm : ∃ ob, c.base.get? sysModules = some ob) (p1 : plain x = true) (p2 : plain y = true) (s1 : SeqAt.shaped (toPy x) = true) (s2 : SeqAt.shaped (toPy y) = true) : PO2 c (compareOp .Eq) x y σ (.bl (PyData.eqv (toPy x) (toPy y))) := ⟨fun X hX H K w v u rv ru Q k => by
  have hX' := hX
  cases hX' with
  | mk _ k' Wx fa hpp hrH hcf hh hp' htk hf' hN hU hst =>
    intro pins s st v' u' I r1 r2
    obtain ⟨as, q1, _⟩ := Rep.reads w I sm x _ _ rv p1 r1
    obtain ⟨bs, q2, _⟩ := Rep.reads w I sm y _ _ ru p2 r2
    exact SeqAt.compareEq_shaped q1 q2 s1 s2 (hunits hrH) ⟨.bl _, K, I, rfl, k _ H K Gw.refl w (.bl _)⟩⟩
theorem po_neD (sm : ∃ ob, c.base.get? sysModules = some ob) (p1 : plain x = true) (p2 : plain y = true) (s1 : SeqAt.shaped (toPy x) = true) (s2 : SeqAt.shaped (toPy y) = true) : PO2 c (compareOp .NotEq) x y σ (.bl (!PyData.eqv (toPy x) (toPy y))) := ⟨fun X hX H K w v u rv ru Q k => by
  have hX' := hX
  cases hX' with
  | mk _ k' Wx fa hpp hrH hcf hh hp' htk hf' hN hU hst =>
    intro pins s st v' u' I r1 r2
    obtain ⟨as, q1, _⟩ := Rep.reads w I sm x _ _ rv p1 r1
    obtain ⟨bs, q2, _⟩ := Rep.reads w I sm y _ _ ru p2 r2
    exact SeqAt.compareNe_shaped q1 q2 s1 s2 (hunits hrH) ⟨.bl _, K, I, rfl, k _ H K Gw.refl w (.bl _)⟩⟩
/-! ### comprehensions by values -/
def LcV (c : Ct) (ifs : List Expr) (elt : Expr) (ρ : EnvT) (σ : Sg) (b : Bool) (d : DT) : Prop :=
  match ifs with
  | [] => b = true ∧ TV c elt ρ σ d
  | [a] => TB c a ρ σ b ∧ (b = true → TV c elt ρ σ d)
  | _ => False
theorem lcNeed_of {α : Type} {l : List α} {g f : α → DT} {tt : α → Bool} {ρ' : α → EnvT} {Q : DT → Sg → Prop} (hn : l.length ≤ 1000000) (hst : ∀ a ∈ l, stT t (g a) (wipeT ρ (own.map (·.2))) = some (ρ' a)) (hs : ∀ a ∈ l, LcV (c.blk scope) ifs elt (ρ' a) σ (tt a) (f a))
    (q : ∀ D, σ D = none → Q (.ref D) (su σ D (.lst ((l.filter tt).map f)))) : LcNeed c t own ifs elt scope ρ Q (l.map g) σ := by
  refine ⟨by rw [List.length_map]; exact hn, fun i acc σ2 => σ2 = σ ∧ acc = ((l.take i).filter tt).map f, ⟨rfl, by simp⟩, fun i d acc σ2 hd ⟨e1, e2⟩ => ?_, fun D acc σ2 hD _ ⟨e1, e2⟩ => ?_⟩
  · subst e1 e2
    rw [List.getElem?_map] at hd
    obtain ⟨a, ha, rfl⟩ := Option.map_eq_some_iff.mp hd
    have hm : a ∈ l := List.mem_of_getElem? ha
    refine ⟨ρ' a, hst a hm, ?_⟩
    have hi : i < l.length := (List.getElem?_eq_some_iff.mp ha).1
    have tk : l.take (i + 1) = l.take i ++ [a] := by rw [List.take_succ, ha]; rfl
    have h := hs a hm
    match ifs, h with
    | [], h =>
      refine h.2.to ⟨rfl, ?_⟩
      rw [tk, List.filter_append, List.map_append, List.filter_cons_of_pos h.1]
      rfl
    | [b], h =>
      refine h.1.to ⟨fun e => (h.2 e).to ⟨rfl, ?_⟩, fun e => ⟨rfl, ?_⟩⟩
      · rw [tk, List.filter_append, List.map_append, List.filter_cons_of_pos e]
        rfl
      · rw [tk, List.filter_append, List.map_append, List.filter_cons_of_neg (by rw [e]; decide)]
        simp
    | _ :: _ :: _, h => exact h.elim
  · subst e1 e2
    rw [List.length_map, List.take_length]
    exact q D hD
theorem tv_lc {α : Type} {l : List α} {g f : α → DT} {tt : α → Bool} {ρ' : α → EnvT} (htg : TgOk (c.blk scope) tg t) (hb : blkC c.N c.sc scope own = true) (hsub : ∀ j ∈ t.slots, j ∈ own.map (·.2)) (hi : TVI c tg iter ρ σ (l.map g)) (hn : l.length ≤ 1000000)
    (hst : ∀ a ∈ l, stT t (g a) (wipeT ρ (own.map (·.2))) = some (ρ' a)) (hs : ∀ a ∈ l, LcV (c.blk scope) ifs elt (ρ' a) σ (tt a) (f a)) (hf : ∀ env x, foldedSetIterable iter env x = pure x := by intro _ _; rfl) :
    TV c (.ListComp elt [⟨tg, iter, ifs, 0⟩] scope pos) ρ σ (.lst ((l.filter tt).map f)) := ⟨fun {Q E} q => te_frz (te_lcC htg hb hsub (hi.to (lcNeed_of hn hst hs fun D hD => ⟨D, _, rfl, su_same, by rw [sd_su hD]; exact q⟩)) hf)⟩
theorem tv_lcM {α : Type} {l : List α} {g f : α → DT} {ρ' : α → EnvT} (htg : TgOk (c.blk scope) tg t) (hb : blkC c.N c.sc scope own = true) (hsub : ∀ j ∈ t.slots, j ∈ own.map (·.2)) (hi : TVI c tg iter ρ σ (l.map g)) (hn : l.length ≤ 1000000)
    (hst : ∀ a ∈ l, stT t (g a) (wipeT ρ (own.map (·.2))) = some (ρ' a)) (hs : ∀ a ∈ l, TV (c.blk scope) elt (ρ' a) σ (f a)) (hf : ∀ env x, foldedSetIterable iter env x = pure x := by intro _ _; rfl) :
    TV c (.ListComp elt [⟨tg, iter, [], 0⟩] scope pos) ρ σ (.lst (l.map f)) := by
  have := tv_lc (pos := pos) (tt := fun _ => true) htg hb hsub hi hn hst (ifs := []) (elt := elt) (f := f) (fun a ha => ⟨rfl, hs a ha⟩) hf
  rwa [List.filter_eq_self.mpr (fun _ _ => rfl)] at this
/-- .. given to a name, on one line -/
theorem tk_setLcV {α : Type} {l : List α} {g f : α → DT} {tt : α → Bool} {ρ' : α → EnvT} {D : EndT} {r : List Stmt} {x : Str} {p1 p2 : Pos} {i : Nat} (hy : c.N[i]? = some x) (hyl : c.sc.names.lookup x = some .local) (hln : (p1.line == pos.line) = true) (hown : (scope.names.any fun (n, k) => n == x && (k == .local || k == .cell)) = false)
    (hil : i < ρ.length) (htg : TgOk (c.blk scope) tg t) (hb : blkC c.N c.sc scope own = true) (hsub : ∀ j ∈ t.slots, j ∈ own.map (·.2)) (hi : TVI c tg iter ρ σ (l.map g)) (hn : l.length ≤ 1000000)
    (hst : ∀ a ∈ l, stT t (g a) (wipeT ρ (own.map (·.2))) = some (ρ' a)) (hs : ∀ a ∈ l, LcV (c.blk scope) ifs elt (ρ' a) σ (tt a) (f a)) (h : TBk c r (ρ.set i (some (.lst ((l.filter tt).map f)))) σ D) (hf : ∀ env x, foldedSetIterable iter env x = pure x := by intro _ _; rfl) :
    TBk c (.Assign [.Name x p1] (.ListComp elt [⟨tg, iter, ifs, 0⟩] scope pos) p2 :: r) ρ σ D :=
  tk_cons (ts_setLc hy hyl hln hown htg hb hsub (hi.to (lcNeed_of hn hst hs fun D hD => tk_frz (i := i) (by rw [List.getElem?_set_self hil]) su_same (by rw [List.set_set, sd_su hD]; exact h))) hf)
theorem tk_setLcM {α : Type} {l : List α} {g f : α → DT} {ρ' : α → EnvT} {D : EndT} {r : List Stmt} {x : Str} {p1 p2 : Pos} {i : Nat} (hy : c.N[i]? = some x) (hyl : c.sc.names.lookup x = some .local) (hln : (p1.line == pos.line) = true) (hown : (scope.names.any fun (n, k) => n == x && (k == .local || k == .cell)) = false)
    (hil : i < ρ.length) (htg : TgOk (c.blk scope) tg t) (hb : blkC c.N c.sc scope own = true) (hsub : ∀ j ∈ t.slots, j ∈ own.map (·.2)) (hi : TVI c tg iter ρ σ (l.map g)) (hn : l.length ≤ 1000000)
    (hst : ∀ a ∈ l, stT t (g a) (wipeT ρ (own.map (·.2))) = some (ρ' a)) (hs : ∀ a ∈ l, TV (c.blk scope) elt (ρ' a) σ (f a)) (h : TBk c r (ρ.set i (some (.lst (l.map f)))) σ D) (hf : ∀ env x, foldedSetIterable iter env x = pure x := by intro _ _; rfl) :
    TBk c (.Assign [.Name x p1] (.ListComp elt [⟨tg, iter, [], 0⟩] scope pos) p2 :: r) ρ σ D :=
  tk_setLcV (tt := fun _ => true) hy hyl hln hown hil htg hb hsub hi hn hst (fun a ha => ⟨rfl, hs a ha⟩) (by rw [List.filter_eq_self.mpr (fun _ _ => rfl)]; exact h) hf
end
/-! ### stores into a list that is a cell -/
section
variable {c : Ct} {ρ : EnvT} {σ : Sg} {D : EndT} {e a b : Expr} {pos p1 : Pos}
theorem ts_setItem (h : TE c e ρ σ (fun v σ1 => TE c a ρ σ1 (fun o σ2 => TE c b ρ σ2 (fun i σ3 => ∃ p xs k j, o = .ref p ∧ i = .int k ∧ σ3 p = some (.lst xs) ∧ ixN xs.length k = some j ∧ D.nx ρ (su σ3 p (.lst (xs.set j v)))) (xD D ρ)) (xD D ρ)) (xD D ρ))
    (ha : ∀ env v, assign (.Subscript a b p1) env v = (do
      let ov ← holding [v] (eval a env)
      let iv ← holding [v, ov] (eval b env)
      standAt p1
      holding [v, ov, iv] (setItem ov iv v)
      release [v, ov, iv] []) := by intro _ _; rfl) (hsw : ∀ env, swapsWithSole [.Subscript a b p1] e pos.line env = pure false := by intro _; rfl) (hst : ∀ env, swappedStores [.Subscript a b p1] e env = pure none := by intro _; rfl)
    (has : ∀ env, (assignEach [.Subscript a b p1] env).map (·.2) = [assign (.Subscript a b p1) env] := by intro _; rfl) : TS c (.Assign [.Subscript a b p1] e pos) ρ σ D := ⟨fun X hX st H K w re D' f => by
  refine cS_of (ps_asg cE_pe (pg_sub cE_pe cE_pe set_list (ha _)) (hsw _) (hst _) (has _)) ?_
  refine h.run X hX st H K w re (f.xc re) _ fun v d σ1 H1 K1 g1 w1 rv h1 => ?_
  refine h1.run X hX st H1 K1 w1 (re.same g1.b) ((f.next g1).xc (re.same g1.b)) _ fun o dO σ2 H2 K2 g2 w2 ro h2 => ?_
  have g12 := g1.trans g2
  refine h2.run X hX st H2 K2 w2 (re.same g12.b) ((f.next g12).xc (re.same g12.b)) _ fun i di σ3 H3 K3 g3 w3 ri ⟨p, xs, k, j, e1, e2, e3, e4, q⟩ => ?_
  subst e1 e2
  cases ro
  cases ri
  have g := g12.trans g3
  obtain ⟨vs, e5, ra⟩ := w3.on p _ e3
  refine ⟨p, vs, k, j, rfl, rfl, e5, by rw [ra.length]; exact e4, ?_⟩
  exact f.nx _ _ _ H3 _ (g.trans (Gw.write e3)) (w3.write e3 (c' := .lst (xs.set j d)) ⟨_, upd_same, RepA.set (rv.same (g2.trans g3).b) j ra⟩) (re.same g.b) q⟩
end
/-! ### the law -/
def lawSpec : TSpec := fun ds σ Q _ => ∃ ns : List Int, ds = [.seq (ns.map DT.int)] ∧ ns.length ≤ 63 ∧ (∀ z ∈ ns, Builtin.Int.intBits z ≤ 1048576) ∧ ∀ σ', Q (.bl true) σ'
theorem walkT {l : PySem.W.OpenLaw} {k : Nat} {q : Program} {loose : List Str} {XP : (Str → Option Value) → Heap → Prop} {YP : World → Heap → Prop} {d : DefRec} {K : Params → PySem.W.Frag} {x : Str}
    (hi : PyProof.Rows.importsNone q = true) (hn : l.most = some 63) (hdf : d.params.defaults = []) (hr : Room k callerA) (hY : ∀ (w : World) (h : Heap), YP w h → (K w.params).In h)
    (G : ∀ (w : World) (mg : Str → Option Value) (fa : Addr) (h : Heap), (K w.params).In h → h.Ns mainGlobals mg → mg d.name = some (.ref fa) →
      ∃ fd : FuncData, (∀ (s : Shared) (u : Value), BindsTo s fd ⟨[u], []⟩ [(x, u)]) ∧ ∀ base : Heap, (K w.params).In base → base.Ns mainGlobals mg → (∃ ob, base.get? sysModules = some ob) → FnG l.prog w (K w.params) mg base k fa fd [x] (spT (K w.params) lawSpec)) :
    PySem.W.WalkO q loose XP YP l.row.toRowW d [] (fun f vs => PySem.call f vs) :=
  walkG (n := 63) (k := k) (x := x) (sp := fun w => spT (K w.params) lawSpec) hi hn (by decide) hdf hr hY G
    fun w H a ns hl hz _ hs => ⟨[.seq (ns.map DT.int)], H, fun _ => none, fun d _ => d = .bl true, TX0, ⟨Same.refl H, (fun _ _ e => nomatch e), (fun _ _ e => nomatch e)⟩, .cons (.seq hs (repA_of V.int DT.int (fun i => .int i) ns)) .nil, ⟨ns, rfl, hl, hz, fun _ => rfl⟩,
      fun v d σ' H' K' _ _ rv e => by subst e; cases rv; rfl, fun _ _ _ _ _ _ _ _ _ z => z.elim⟩
end Y

/-! Y7: trees of bounded size: their repr, their ==. -/
namespace Y
open PySem PySem.Spec L2 SX Z
theorem shown_int_big {i : Int} (h : i.natAbs < 10 ^ 61) : (PyData.shown (.int i)).length ≤ 63 := by
  have e := int_text_length_le10 (k := 61) (by decide) h
  show (Str.ofString (toString i)).length ≤ 63
  rw [PySem.ofString_length]
  omega
mutual
inductive Gd : Nat → Nat → DT → Prop
  | non {n w : Nat} : Gd n w .non
  | bl {n w : Nat} (b : Bool) : Gd n w (.bl b)
  | int {n w : Nat} {i : Int} (h : i.natAbs < 10 ^ 61) (hw : 203 ≤ w) : Gd n w (.int i)
  | str {n w : Nat} {s : List Nat} (h : s.length ≤ w) (ok : s.all (fun k => decide (k < 1114112)) = true) : Gd n w (.str s)
  | lst {n w : Nat} {xs : List DT} (h : GdA n w xs) : Gd (n + 1) w (.lst xs)
  | tup {n w : Nat} {xs : List DT} (h : GdA n w xs) : Gd (n + 1) w (.tup xs)
  | dct {n w : Nat} {xs : List (DK × DT)} (h : GdK n w xs) : Gd (n + 1) w (.dct xs)
inductive GdA : Nat → Nat → List DT → Prop
  | nil {n w : Nat} : GdA n w []
  | cons {n w w1 w2 : Nat} {x : DT} {xs : List DT} (h : Gd n w1 x) (h2 : GdA n w2 xs) (e : w1 + 1 + w2 ≤ w) : GdA n w (x :: xs)
inductive GdK : Nat → Nat → List (DK × DT) → Prop
  | nil {n w : Nat} : GdK n w []
  | cons {n w w0 w1 w2 : Nat} {k : DK} {x : DT} {xs : List (DK × DT)} (h0 : Gd n w0 (dk k)) (h : Gd n w1 x) (h2 : GdK n w2 xs) (e : w0 + w1 + 2 + w2 ≤ w) : GdK n w ((k, x) :: xs)
end
structure GdF (n w : Nat) (d : PyData) : Prop where
  dep : d.depth ≤ n
  wt : d.weight ≤ w
  sh : d.showable = true
  lv : d.leavesShort 63 = true
theorem gdF_int {n w : Nat} {i : Int} (h : i.natAbs < 10 ^ 61) (hw : 203 ≤ w) : GdF n w (.int i) := by
  have hl : i.natAbs.log2 < 203 := by
    by_cases z : i.natAbs = 0
    · rw [z]; decide
    · exact (Nat.log2_lt z).mpr (Nat.lt_of_lt_of_le h (by decide))
  refine ⟨Nat.zero_le _, ?_, decide_eq_true (by omega), decide_eq_true (shown_int_big h)⟩
  unfold PyData.weight
  split <;> omega
theorem gdF_str {n w : Nat} {s : List Nat} (h : s.length ≤ w) (ok : s.all (fun k => decide (k < 1114112)) = true) : GdF n w (.str (S s)) := by
  refine ⟨Nat.zero_le _, by unfold PyData.weight; simpa [S] using h, rfl, ?_⟩
  unfold PyData.leavesShort
  rw [List.all_eq_true] at ok ⊢
  intro k hk
  have := of_decide_eq_true (ok k (by simpa [S] using hk))
  exact decide_eq_true (Nat.lt_trans this (by decide))
theorem gdF_key {n w : Nat} {k : DK} (h : Gd n w (dk k)) : GdF n w (keyPy k) := by
  cases k with
  | inl i => cases h with | int h hw => exact gdF_int h hw
  | inr s => cases h with | str h ok => exact gdF_str h ok
mutual
theorem Gd.plain : ∀ {n w : Nat} {d : DT}, Gd n w d → Y.plain d = true
  | _, _, _, .non => rfl
  | _, _, _, .bl _ => rfl
  | _, _, _, .int _ _ => rfl
  | _, _, _, .str _ _ => rfl
  | _, _, _, .lst h => GdA.plain h
  | _, _, _, .tup h => GdA.plain h
  | _, _, _, .dct h => GdK.plain h
theorem GdA.plain : ∀ {n w : Nat} {d : List DT}, GdA n w d → plainA d = true
  | _, _, _, .nil => rfl
  | _, _, _, .cons h h2 _ => Bool.and_eq_true_iff.mpr ⟨Gd.plain h, GdA.plain h2⟩
theorem GdK.plain : ∀ {n w : Nat} {d : List (DK × DT)}, GdK n w d → plainK d = true
  | _, _, _, .nil => rfl
  | _, _, _, .cons _ h h2 _ => Bool.and_eq_true_iff.mpr ⟨Gd.plain h, GdK.plain h2⟩
end
mutual
theorem Gd.f : ∀ {n w : Nat} {d : DT}, Gd n w d → GdF n w (toPy d)
  | _, _, _, .non => ⟨Nat.zero_le _, Nat.zero_le _, rfl, rfl⟩
  | _, _, _, .bl _ => ⟨Nat.zero_le _, Nat.zero_le _, rfl, rfl⟩
  | _, _, _, .int h hw => gdF_int h hw
  | _, _, _, .str h ok => gdF_str h ok
  | _, _, _, .lst h => by
    obtain ⟨h1, h2, h3, h4⟩ := GdA.f h
    exact ⟨Nat.succ_le_succ h1, h2, h3, h4⟩
  | _, _, _, .tup h => by
    obtain ⟨h1, h2, h3, h4⟩ := GdA.f h
    exact ⟨Nat.succ_le_succ h1, h2, h3, h4⟩
  | _, _, _, .dct h => by
    obtain ⟨h1, h2, h3, h4⟩ := GdK.f h
    exact ⟨Nat.succ_le_succ h1, h2, h3, h4⟩
theorem GdA.f : ∀ {n w : Nat} {d : List DT}, GdA n w d → PyData.depthAll (toPyA d) ≤ n ∧ PyData.weightAll (toPyA d) ≤ w ∧ PyData.showableAll (toPyA d) = true ∧ PyData.leavesShortAll 63 (toPyA d) = true
  | _, _, _, .nil => ⟨Nat.zero_le _, Nat.zero_le _, rfl, rfl⟩
  | _, _, _, .cons h h2 e => by
    obtain ⟨a1, a2, a3, a4⟩ := Gd.f h
    obtain ⟨b1, b2, b3, b4⟩ := GdA.f h2
    simp only [toPyA, PyData.depthAll, PyData.weightAll, PyData.showableAll, PyData.leavesShortAll, a3, a4, b3, b4, Bool.and_self]
    exact ⟨Nat.max_le.mpr ⟨a1, b1⟩, by omega, trivial, trivial⟩
theorem GdK.f : ∀ {n w : Nat} {d : List (DK × DT)}, GdK n w d → PyData.depthKv (toPyK d) ≤ n ∧ PyData.weightKv (toPyK d) ≤ w ∧ PyData.showableKv (toPyK d) = true ∧ PyData.leavesShortKv 63 (toPyK d) = true
  | _, _, _, .nil => ⟨Nat.zero_le _, Nat.zero_le _, rfl, rfl⟩
  | _, _, _, .cons h0 h h2 e => by
    obtain ⟨c1, c2, c3, c4⟩ := gdF_key h0
    obtain ⟨a1, a2, a3, a4⟩ := Gd.f h
    obtain ⟨b1, b2, b3, b4⟩ := GdK.f h2
    simp only [toPyK, PyData.depthKv, PyData.weightKv, PyData.showableKv, PyData.leavesShortKv, a3, a4, b3, b4, c3, c4, Bool.and_self]
    exact ⟨Nat.max_le.mpr ⟨Nat.max_le.mpr ⟨c1, a1⟩, b1⟩, by omega, trivial, trivial⟩
end
theorem GdA.all {n w : Nat} : ∀ {xs : List DT}, (∀ x ∈ xs, Gd n w x) → GdA n (xs.length * (w + 1)) xs
  | [], _ => .nil
  | x :: xs, h => .cons (h x List.mem_cons_self) (GdA.all fun y hy => h y (List.mem_cons_of_mem _ hy)) (by rw [List.length_cons, Nat.add_mul]; omega)
theorem GdA.le {n a b : Nat} (h : a ≤ b) : ∀ {xs : List DT}, GdA n a xs → GdA n b xs
  | _, .nil => .nil
  | _, .cons h1 h2 e => .cons h1 h2 (by omega)
def isBox : DT → Bool
  | .lst _ => true
  | .tup _ => true
  | .dct _ => true
  | _ => false
theorem isBox_ref {d : DT} (h : isBox d = true) : ∀ F H v, Rep F H v d → ∃ a, v = .ref a := fun F H v r => by
  cases r with
  | lst => exact ⟨_, rfl⟩
  | tup => exact ⟨_, rfl⟩
  | dct => exact ⟨_, rfl⟩
  | _ => cases h
/-- the text of a tree -/
def reprT (d : DT) : List Nat := (toPy d).shown.cps.toList
section
variable {c : Ct} {σ : Sg} {x y d : DT} {xs : List DT}
/-! ### == of trees without dicts -/
def Sh : Nat → DT → Prop
  | _, .non => True
  | _, .bl _ => True
  | _, .int _ => True
  | _, .str s => s.all (fun k => decide (k < 1114112)) = true
  | n + 1, .lst xs => ∀ x ∈ xs, Sh n x
  | n + 1, .tup xs => ∀ x ∈ xs, Sh n x
  | _, _ => False
theorem sh_f : ∀ (n : Nat) (d : DT), Sh n d → Y.plain d = true ∧ (toPy d).canLay0 = true ∧ (toPy d).depth ≤ n := by
  have str : ∀ {n : Nat} {s : List Nat}, s.all (fun k => decide (k < 1114112)) = true → Y.plain (.str s) = true ∧ (toPy (.str s)).canLay0 = true ∧ (toPy (.str s)).depth ≤ n := fun {n s} h => by
    refine ⟨rfl, ?_, Nat.zero_le _⟩
    show PyData.strOk (S s) = true
    unfold PyData.strOk
    simp only [S]
    rw [← Array.all_toList]
    exact h
  have lst : ∀ (n : Nat), (∀ d, Sh n d → Y.plain d = true ∧ (toPy d).canLay0 = true ∧ (toPy d).depth ≤ n) → ∀ xs : List DT, (∀ x ∈ xs, Sh n x) → plainA xs = true ∧ PyData.canLayAll0 (toPyA xs) = true ∧ PyData.depthAll (toPyA xs) ≤ n := by
    intro n ih xs
    induction xs with
    | nil => intro _; exact ⟨rfl, rfl, Nat.zero_le _⟩
    | cons x xs ih2 =>
      intro h
      obtain ⟨a1, a2, a3⟩ := ih x (h x List.mem_cons_self)
      obtain ⟨b1, b2, b3⟩ := ih2 fun y hy => h y (List.mem_cons_of_mem _ hy)
      exact ⟨Bool.and_eq_true_iff.mpr ⟨a1, b1⟩, Bool.and_eq_true_iff.mpr ⟨a2, b2⟩, Nat.max_le.mpr ⟨a3, b3⟩⟩
  intro n
  induction n with
  | zero =>
    intro d h
    cases d with
    | non => exact ⟨rfl, rfl, Nat.le_refl _⟩
    | bl => exact ⟨rfl, rfl, Nat.le_refl _⟩
    | int => exact ⟨rfl, rfl, Nat.le_refl _⟩
    | str s => exact str h
    | _ => exact h.elim
  | succ n ih =>
    intro d h
    cases d with
    | non => exact ⟨rfl, rfl, Nat.zero_le _⟩
    | bl => exact ⟨rfl, rfl, Nat.zero_le _⟩
    | int => exact ⟨rfl, rfl, Nat.zero_le _⟩
    | str s => exact str h
    | lst xs =>
      obtain ⟨a, b, c⟩ := lst n ih xs h
      exact ⟨a, b, Nat.succ_le_succ c⟩
    | tup xs =>
      obtain ⟨a, b, c⟩ := lst n ih xs h
      exact ⟨a, b, Nat.succ_le_succ c⟩
    | _ => exact h.elim
theorem sh_sh {n : Nat} (h : Sh n d) (hn : n ≤ 64) : SeqAt.shaped (toPy d) = true := by
  obtain ⟨_, a, b⟩ := sh_f n d h
  unfold SeqAt.shaped
  rw [a, decide_eq_true (Nat.le_trans b hn)]
  rfl
/-- equal as data -/
def eqT (x y : DT) : Bool := PyData.eqv (toPy x) (toPy y)
theorem po_eqT {n m : Nat} (sm : ∃ ob, c.base.get? sysModules = some ob) (h1 : Sh n x) (h2 : Sh m y) (hn : n ≤ 64) (hm : m ≤ 64) : PO2 c (compareOp .Eq) x y σ (.bl (eqT x y)) := po_eqD sm (sh_f n x h1).1 (sh_f m y h2).1 (sh_sh h1 hn) (sh_sh h2 hm)
theorem po_neT {n m : Nat} (sm : ∃ ob, c.base.get? sysModules = some ob) (h1 : Sh n x) (h2 : Sh m y) (hn : n ≤ 64) (hm : m ≤ 64) : PO2 c (compareOp .NotEq) x y σ (.bl (!eqT x y)) := po_neD sm (sh_f n x h1).1 (sh_f m y h2).1 (sh_sh h1 hn) (sh_sh h2 hm)
theorem eqT_nil : eqT (.lst xs) (.lst []) = xs.isEmpty := by
  cases xs <;> rfl
theorem sh_nil : Sh 1 (.lst []) := fun _ h => nomatch h
theorem po_neNil (sm : ∃ ob, c.base.get? sysModules = some ob) (h : Sh 60 (.lst xs)) : PO2 c (compareOp .NotEq) (.lst xs) (.lst []) σ (.bl (!xs.isEmpty)) := by
  rw [← eqT_nil]
  exact po_neT sm h sh_nil (by decide) (by decide)
end
end Y

/-! Y8: comprehensions whose turns change the state; short forms. -/
namespace Y
open PySem PySem.Spec L2 SX Z
section
variable {c : Ct} {ρ : EnvT} {σ : Sg} {Q : DT → Sg → Prop} {E : TX} {tg iter elt : Expr} {scope : Scope} {pos : Pos} {own : List (Str × Nat)} {t : TgS}
/-- a list comprehension whose elements are told by Pa, the state after i turns by R i -/
theorem te_lcR {α : Type} {f : α → DT} {Pa : α → Prop} {R : Nat → Sg → Prop} (htg : TgOk (c.blk scope) tg t) (hb : blkC c.N c.sc scope own = true) (hsub : ∀ j ∈ t.slots, j ∈ own.map (·.2))
    (hi : TI c tg iter ρ σ (fun ds σ1 => ds.length ≤ 1000000 ∧ R 0 σ1 ∧ (∀ i d σ2, ds[i]? = some d → R i σ2 → ∃ ρ', stT t d (wipeT ρ (own.map (·.2))) = some ρ' ∧ TE (c.blk scope) elt ρ' σ2 (fun y σ3 => ∃ a, y = f a ∧ Pa a ∧ R (i + 1) σ3) TX0) ∧
      ∀ (l : List α) σ2, l.length = ds.length → (∀ a ∈ l, Pa a) → R ds.length σ2 → Q (.lst (l.map f)) σ2) E) (hf : ∀ env x, foldedSetIterable iter env x = pure x := by intro _ _; rfl) :
    TE c (.ListComp elt [⟨tg, iter, [], 0⟩] scope pos) ρ σ Q E := by
  refine te_frz (te_lcC htg hb hsub ⟨fun X hX st H K w r xc R' k => hi.run X hX st H K w r xc R' fun ds σ1 Jt G Yh H1 K1 g1 w1 ⟨hn, r0, hs, hq⟩ => k ds σ1 Jt G Yh H1 K1 g1 w1 ?_⟩ hf)
  refine ⟨hn, fun i acc σ2 => ∃ l : List α, acc = l.map f ∧ l.length = i ∧ (∀ a ∈ l, Pa a) ∧ R i σ2, ⟨[], rfl, rfl, (fun _ h => nomatch h), r0⟩, ?_, ?_⟩
  · rintro i d acc σ2 hd ⟨l, rfl, hl, hp, hr⟩
    obtain ⟨ρ', h1, h2⟩ := hs i d σ2 hd hr
    refine ⟨ρ', h1, TE.imp h2 ?_⟩
    rintro y σ3 ⟨a, rfl, pa, r3⟩
    refine ⟨l ++ [a], by simp, by simp [hl], fun b hb => ?_, r3⟩
    rcases List.mem_append.mp hb with z | z
    · exact hp b z
    · rw [List.mem_singleton.mp z]; exact pa
  · rintro D acc σ2 hD _ ⟨l, rfl, hl, hp, hr⟩
    refine ⟨D, _, rfl, su_same, ?_⟩
    rw [sd_su hD]
    exact hq l σ2 hl hp hr
/-- a value in the midst of what is not one -/
theorem te_v {e : Expr} {d : DT} (h : TV c e ρ σ d) (q : Q d σ) : TE c e ρ σ Q E := h.to q
theorem ta_v {e : Expr} {es : List Expr} {d : DT} {QA : List DT → Sg → Prop} (h : TV c e ρ σ d) (q : TA c es ρ σ (fun xs σ2 => QA (d :: xs) σ2) E) (hs : ∀ env, starEach (e :: es) env = (false, eval e env) :: starEach es env := by intro _; rfl) : TA c (e :: es) ρ σ QA E := ta_cons (h.to q) hs
theorem cut_two {a : List DT} {i j : Nat} {x y : Int} (hx : x = (i : Int)) (hy : y = (j : Int)) : cutT a (some x) (some y) = (a.drop i).take (j - i) := by
  subst hx hy
  unfold cutT
  rw [HT.sIx_nat, HT.sIx_nat]
  by_cases h : i ≤ a.length
  · rw [Nat.min_eq_left h]
    by_cases h2 : j ≤ a.length
    · rw [Nat.min_eq_left h2]
    · rw [Nat.min_eq_right (by omega), List.take_of_length_le (by rw [List.length_drop]; omega), List.take_of_length_le (by rw [List.length_drop]; omega)]
  · rw [Nat.min_eq_right (show a.length ≤ i by omega), List.drop_length, List.drop_of_length_le (by omega), List.take_nil, List.take_nil]
theorem cut_to {a : List DT} {j : Nat} {y : Int} (hy : y = (j : Int)) : cutT a none (some y) = a.take j := by
  have h : cutT a none (some y) = cutT a (some 0) (some y) := by
    unfold cutT
    rw [HT.sIx_none, show (0 : Int) = ((0 : Nat) : Int) from rfl, HT.sIx_nat]
    simp
  rw [h, cut_two (x := 0) (i := 0) rfl hy]
  simp
theorem cut_from {a : List DT} {i : Nat} {x : Int} (hx : x = (i : Int)) : cutT a (some x) none = a.drop i := by
  subst hx
  unfold cutT
  rw [HT.sIx_nat, HT.sIx_none]
  by_cases h : i ≤ a.length
  · rw [Nat.min_eq_left h, List.take_of_length_le (by rw [List.length_drop]; omega)]
  · rw [Nat.min_eq_right (by omega), List.drop_length, List.drop_of_length_le (by omega), List.take_nil]
end
end Y

/-! Y9: texts as lists and tuples, texts from behind, dicts written. -/
namespace Y
open PySem PySem.Spec L2 SX Z
open PyProof.Rows (subscriptTail)
section
variable {c : Ct} {ρ : EnvT} {σ : Sg} {Q : DT → Sg → Prop} {E : TX} {x y d : DT} {a : List Nat} {e k v : Expr} {pos : Pos} {xs : List DT}
theorem pf_tupL (hx : LsT σ x xs) : POF c (.type "tuple") [x] σ (.tup xs) := ⟨fun X hX H K w vs r Q k => by
  have hX' := hX
  cases hX'
  obtain ⟨v, rfl, rv⟩ := repA_one r
  obtain ⟨a, vs, rfl, q1, r1⟩ := hx.now w rv
  refine cF_of call_tuple_of ⟨a, vs, rfl, .inl ⟨q1, fun p hp => ?_⟩⟩
  obtain ⟨g, w2⟩ := w.new (o := .tup vs) hp
  exact k _ _ _ g w2 (.tup (SqT.of upd_same) (r1.same g.b))⟩
/-! ### dicts written -/
theorem te_dict0 (h : ∀ p, σ p = none → Q (.ref p) (su σ p (.dct []))) : TE c (.Dict [] [] pos) ρ σ Q E := ⟨fun X hX st H K w r xc Q' f => cE_of pe_dnewK fun p hp =>
  f _ _ _ H _ (Gw.newC hp) ((w.push (o := .dK []) hp).add (c := .dct []) (none_of w.le hp) ⟨[], upd_same, .nil⟩) (.ref p) (h p (w.free hp))⟩
theorem tv_dict0 : TV c (.Dict [] [] pos) ρ σ (.dct []) := ⟨fun {Q E} q => te_frz (te_dict0 fun p hp => ⟨p, _, rfl, su_same, by rw [sd_su hp]; exact q⟩)⟩
end
end Y

/-! Yd: dicts over trees; texts sorted, any number of them. -/
namespace Y
open PySem PySem.Spec PyProof.Rows L2 SX Z
/-- what stands at a key -/
def dvl (kvs : List (DK × DT)) (k : DK) : Option DT := (kvs.find? fun kv => decide (kv.1 = k)).map (·.2)
section
variable {F : PySem.W.Frag} {H : Hp}
theorem RepK.val (k : DK) : ∀ {vs : List (Key × V)} {kvs : List (DK × DT)}, RepK F H vs kvs → (∀ d, dvl kvs k = some d → ∃ v, valV vs (keyD k) = some v ∧ Rep F H v d) ∧ (dvl kvs k = none → valV vs (keyD k) = none)
  | _, _, .nil => ⟨fun d e => (by cases e), fun _ => rfl⟩
  | _, _, .cons (k := k2) (vs := vs) (v := v0) (d := d0) (ds := ds) h t => by
    obtain ⟨i1, i2⟩ := RepK.val k t
    by_cases e : k2 = k
    · subst e
      have a : dvl ((k2, d0) :: ds) k2 = some d0 := by unfold dvl; rw [List.find?_cons, decide_eq_true rfl]; rfl
      rw [a, valV_pos rfl]
      exact ⟨fun d q => by cases q; exact ⟨_, rfl, h⟩, fun q => nomatch q⟩
    · have a : ∀ d, dvl ((k2, d) :: ds) k = dvl ds k := fun d => by unfold dvl; rw [List.find?_cons, decide_eq_false e]
      rw [a, valV_neg (fun z => e (keyD_inj z))]
      exact ⟨i1, i2⟩
end
section
variable {c : Ct} {ρ : EnvT} {σ : Sg} {e a b : Expr} {pos p : Pos} {x d : DT} {k : DK} {kvs : List (DK × DT)} {Q : DT → Sg → Prop} {E : TX} {D : EndT} {p1 : Pos}
end
/-! ### texts in ascending order -/
theorem S_codes (l : List Nat) : (S l).cps.toList = l := by simp [S]
end Y
namespace Y
open PySem PySem.Spec PyProof.Rows L2 SX Z
section
variable {c : Ct} {ρ : EnvT} {σ : Sg} {e a b : Expr} {pos p p2 : Pos} {x d : DT} {k : DK} {kvs : List (DK × DT)} {Q : DT → Sg → Prop} {E : TX} {D : EndT} {p1 : Pos}
end
end Y

/-! Yo: instances of own classes over trees. -/
namespace Y
open PySem PySem.Spec PyProof.Rows L2 SX Z
section
variable {F : PySem.W.Frag} {H : Hp}
theorem RepF.none {x : Str} : ∀ {vs : List (Str × V)} {ds : List (Str × DT)}, RepF F H vs ds → ds.lookup x = none → vs.lookup x = none
  | _, _, .nil, _ => rfl
  | _, _, .cons (k := k) h t, e => by
    rw [List.lookup_cons] at e ⊢
    cases z : x == k with
    | true => rw [z] at e; cases e
    | false => rw [z] at e; exact RepF.none t e
theorem RepF.len : ∀ {vs : List (Str × V)} {ds : List (Str × DT)}, RepF F H vs ds → vs.length = ds.length
  | _, _, .nil => rfl
  | _, _, .cons _ t => congrArg (· + 1) (RepF.len t)
end
/-- what is an instance of C with these fields -/
def ObX (σ : Sg) (x : DT) (C : Addr) (fs : List (Str × DT)) : Prop := x = .obj C fs ∨ ∃ p, x = .ref p ∧ σ p = some (.obj C fs)
theorem ObX.now {F : PySem.W.Frag} {H K : Hp} {σ : Sg} {x : DT} {C : Addr} {fs : List (Str × DT)} {v : V} (l : ObX σ x C fs) (w : Wd F H σ K) (r : Rep F H v x) : ∃ a dx vs, v = .ref a ∧ K a = some (.ins C dx vs) ∧ RepF F H vs fs := by
  rcases l with rfl | ⟨p, rfl, h⟩
  · cases r with
    | obj h1 h2 ra => exact ⟨_, _, _, rfl, w.le _ _ h1, ra⟩
  · cases r
    obtain ⟨dx, vs, h1, _, ra⟩ := w.on p _ h
    exact ⟨p, dx, vs, rfl, h1, ra⟩
section
variable {c : Ct} {ρ : EnvT} {σ : Sg} {Q : DT → Sg → Prop} {E : TX} {e a o : Expr} {es : List Expr} {pos p apos : Pos} {d x : DT} {C : Addr} {fs : List (Str × DT)} {f m : Str} {k : Nat} {ps : List Str} {spec : TSpec} {D : EndT}
end
end Y
namespace Y
open PySem PySem.Spec PyProof.Rows L2 SX Z
section
variable {c : Ct} {ρ : EnvT} {σ : Sg} {Q : DT → Sg → Prop} {E : TX} {e a o : Expr} {es : List Expr} {pos p apos : Pos} {d x : DT} {C : Addr} {fs : List (Str × DT)} {f m : Str} {k : Nat} {ps : List Str} {spec : TSpec} {D : EndT}
end
end Y
namespace Y
open PySem PySem.Spec PyProof.Rows L2 SX Z
section
variable {c : Ct} {ρ : EnvT} {σ : Sg} {Q : DT → Sg → Prop} {E : TX} {e a o : Expr} {es : List Expr} {pos p apos : Pos} {d x : DT} {C : Addr} {fs : List (Str × DT)} {f m : Str} {k : Nat} {ps : List Str} {spec : TSpec} {D : EndT}
end
end Y
namespace Y
open PySem PySem.Spec PyProof.Rows L2 SX Z
section
variable {c : Ct} {σ : Sg} {x y d : DT} {C : Addr} {fs gs : List (Str × DT)} {k : Nat} {ps : List Str} {spec : TSpec} {b : Bool} {n : Nat}
end
end Y
namespace Y
open PySem PySem.Spec PyProof.Rows L2 SX Z
section
variable {c : Ct} {ρ : EnvT} {σ : Sg} {Q : DT → Sg → Prop} {E : TX} {e a o : Expr} {es : List Expr} {pos p apos : Pos} {d x : DT} {C : Addr} {fs : List (Str × DT)} {f m n : Str} {k : Nat} {ps : List Str} {spec : TSpec} {D : EndT}
end
end Y
namespace Y
open PySem PySem.Spec PyProof.Rows L2 SX Z
section
variable {c : Ct} {ρ : EnvT} {σ : Sg} {Q : DT → Sg → Prop} {E : TX} {e a o : Expr} {es : List Expr} {pos p apos : Pos} {d x : DT} {C : Addr} {fs : List (Str × DT)} {f m : Str} {k : Nat} {ps : List Str} {spec : TSpec} {D : EndT}
end
end Y
namespace PySem.W
open PySem PySem.Spec PySem.Calls PyProof.Rows
end PySem.W
namespace Y
open PySem PySem.Spec PyProof.Rows L2 SX Z
section
variable {c : Ct} {σ : Sg} {x y d : DT} {C : Addr} {fs gs : List (Str × DT)} {k : Nat} {ps : List Str} {spec : TSpec} {b : Bool} {n : Nat}
end
end Y

/-! Yq: == of dicts whose values are ints. -/
namespace Y
open PySem PySem.Spec PyProof.Rows L2 SX Z
abbrev CK := List (DK × Int)
/-- the tree of a tally -/
def iD (ks : CK) : List (DK × DT) := ks.map fun p => (p.1, .int p.2)
section
variable {F : PySem.W.Frag} {H : Hp}
end
section
variable {c : Ct} {σ : Sg} {x y : DT} {ks ls : CK}
end
end Y

/-! Ys: sorted of a dict with texts as keys, any number of them. -/
namespace Y
open PySem PySem.Spec PyProof.Rows L2 SX Z
end Y
namespace Y
open PySem PySem.Spec L2 SX Z
section
variable {c : Ct} {ρ : EnvT} {σ : Sg} {tg iter kx vx : Expr} {scope : Scope} {pos : Pos} {own : List (Str × Nat)} {t : TgS}
end
end Y

/-! Yu: dict of a list of pairs. -/
namespace Y
open PySem PySem.Spec PyProof.Rows L2 SX Z
section
variable {c : Ct} {ρ : EnvT} {σ : Sg} {a : Expr} {pos p : Pos} {l : List (DK × DT)} {Q : DT → Sg → Prop} {E : TX}
end
end Y

/-! Yv: sum(d.values()), ints that are not great. -/
namespace Y
open PySem PySem.Spec PyProof.Rows L2 SX Z
section
variable {c : Ct} {ρ : EnvT} {σ : Sg} {o : Expr} {p pos apos mpos : Pos} {x : DT} {ks : CK}
end
end Y

/-! Yw: dicts written with several pairs; classmethods as values. -/
namespace Y
open PySem PySem.Spec PyProof.Rows L2 SX Z
section
variable {c : Ct} {ρ : EnvT} {σ : Sg} {k v : Expr} {ks : List (Option Expr)} {vs : List Expr} {pos : Pos} {kvs : List (DK × DT)} {y : DT} {Q : DT → Sg → Prop} {E : TX}
/-- pairs by values -/
structure TVP (c : Ct) (pos : Pos) (ks : List (Option Expr)) (vs : List Expr) (ρ : EnvT) (σ : Sg) (kvs : List (DK × DT)) : Prop where
  run : ∀ X, Con c X → ∃ trs, PPs X pos ks vs trs ∧ ks.all (·.isSome) = true ∧ ks.length = vs.length ∧ kvs.length = ks.length ∧ ∀ st H K, Wd c.K H σ K → REnv c.K H ρ st → ∀ Q' : List (V × V) → Hp → Prop, (∀ kvs' H' K', Gw H σ K H' σ K' → Wd c.K H' σ K' → RepK c.K H' kvs' kvs → Q' (kvs'.map fun kv => (kV kv.1, kv.2)) K') → tPairs trs st K Q'
end
section
variable {c : Ct} {ρ : EnvT} {σ : Sg} {e a o : Expr} {es : List Expr} {pos p apos : Pos} {d x : DT} {C : Addr} {m n : Str} {k : Nat} {ps : List Str} {spec : TSpec}
end
end Y

/-! Ye: exceptions of own classes as values. -/
namespace PySem.W
open PySem PySem.Spec PySem.Calls PyProof.Rows
structure ExcA (K : Frag) (C : Addr) : Prop extends L2.ExcC K C where
  ty : typeIn K (.ref C) = some (.type "type")
  kp : keepIn K (.ref C) = true
section
variable {prog : Program} {w : World} {A : Around} {E : Value → Shared → Prop} {hp : Heap} {g : Array GenState} {d : Drawn} {t : Nat} {os : OsState} {K : Frag} {x D : Addr} {ox : Obj} {od : Option Obj}
end
end PySem.W
namespace PySem.W
open PySem PySem.Spec PySem.Calls PyProof.Rows
end PySem.W
namespace Y
open PySem PySem.Spec PyProof.Rows L2 SX Z
section
variable {c : Ct} {ρ : EnvT} {σ : Sg} {Q : DT → Sg → Prop} {E : TX} {e : Expr} {pos p : Pos} {fs : List (Str × DT)} {C D : Addr} {b : Bool}
end
end Y

/-! Yi: exceptions whose class has an __init__ of its own, which calls the base's and keeps one field. -/
namespace Y
open PySem PySem.Spec PyProof.Rows L2 SX Z
/-- what such an __init__ does -/
def spI (C : Addr) (f : Str) : Sp := fun vs K Q _ => ∃ a v, vs = [.ref a, v] ∧ K a = some (exo a C none) ∧ ∀ dx, K dx = none → dx ≠ a → Q .non (upd (upd K dx (exd dx [(f, v)])) a (exo a C (some dx)))
/-- Base.__init__(self, ..), Base an own class -/
structure BaseI (K : PySem.W.Frag) (mg : Str → Option Value) (x : Str) (B : Addr) (mc : Value) : Prop where
  at_ : mg x = some (.ref B)
  rd : PySem.W.readsIn K B mc = true
  ga : PySem.W.specialIn K (.ref B) "__getattribute__" = some (some (.builtin "type.__getattribute__"))
  ini : PySem.W.findCls K (.ref B) mc "__init__" = some (.val (.builtin "ValueError.__init__"))
/-- a class with such an __init__ -/
structure ExcI (P : Program) (w : World) (F : PySem.W.Frag) (mg : Str → Option Value) (base : Heap) (C : Addr) (f : Str) (k : Nat) : Prop where
  o : OexC F C
  run : ∃ fI fd pn, PySem.W.findIn F (.ref C) "__init__" = some (some (.ref fI)) ∧ PySem.W.typeIn F (.ref fI) = some (.type "function") ∧ Binds F fd ["self", pn] [] ∧ FnG P w F mg base k fI fd ["self", pn] (spI C f)
section
variable {c : Ct} {ρ : EnvT} {σ : Sg} {Q : DT → Sg → Prop} {E : TX} {e : Expr} {pos p : Pos} {C : Addr}
end
end Y

/-! Yt: try with several clauses that give their exception a name. -/
namespace Y
open PySem PySem.Spec PyProof.Rows L2 L2H HotX
abbrev ClT := Value × Nat × (Addr → Value → Option Addr → L2.TS)
inductive HdN (X : Cx) : List ExceptHandler → List ClT → Prop
  | nil : HdN X [] []
  | cons {x n : Str} {c : Value} {i : Nat} {ts : Addr → Value → Option Addr → L2.TS} {b₀ : Stmt} {suite : List Stmt} {np pos' : Pos} {hds : List ExceptHandler} {l : List ClT} (hi : X.N[i]? = some n) (hln : X.env.kindOf n = some .local) (hc : Names X x c)
      (hsu : ∀ (a : Addr) (oe : Obj) (cls : Value) (d : Option Addr) (pn : List (Addr × Obj)), L2N.Zn cls d oe → (∃ vs, oe.data = .fields vs) → PSs (X.suite a ((a, oe) :: pn)) (b₀ :: suite) (ts a cls d)) (r : HdN X hds l) :
      HdN X (.ExceptHandler (some (.Name x np)) (some n) (b₀ :: suite) pos' :: hds) ((c, i, ts) :: l)
section
variable {X : Cx} {body : List Stmt} {h₀ : ExceptHandler} {hds : List ExceptHandler} {l : List ClT} {pos : Pos} {tb : WX → L2.TS} {Wout : WX}
end
end Y

/-! Yx: raise and try over trees; the exception that a suite holds. -/
namespace Y
open PySem PySem.Spec PyProof.Rows L2 L2H HotX SX Z
/-! ### the exception that is handled -/
/-- what is known of it: its class, its dict -/
structure HotE (p : Addr × Obj) (C : Addr) (d : Option Addr) : Prop where
  cls : p.2.cls = .ref C
  dict : p.2.dict = d
section
variable {c : Ct} {ρ : EnvT} {σ : Sg} {Q : DT → Sg → Prop} {E : TX} {e : Expr} {pos p : Pos} {fs : List (Str × DT)} {C D a : Addr} {oe : Obj} {d : Option Addr} {b : Bool} {x : DT}
end
/-! ### raise -/
section
variable {c : Ct} {ρ : EnvT} {σ : Sg} {D : EndT} {e : Expr} {pos pos3 p p2 : Pos} {C : Addr} {x : Str}
end
/-! ### try -/
abbrev Ct.suite (c : Ct) (p : Addr × Obj) : Ct := ⟨c.P, c.w, c.K, c.mg, c.base, c.N, c.sc, c.k, fun _ _ _ _ => False, c.fa, some p⟩
abbrev Ct.tr (c : Ct) (W : WX) : Ct := ⟨c.P, c.w, c.K, c.mg, c.base, c.N, c.sc, c.k, W, c.fa, c.hp⟩
abbrev ClY := Value × Nat × List Stmt
inductive HdY (c : Ct) : List ExceptHandler → List ClY → Prop
  | nil : HdY c [] []
  | cons {x n : Str} {cv : Value} {i : Nat} {b₀ : Stmt} {suite : List Stmt} {np pos' : Pos} {hds : List ExceptHandler} {l : List ClY} (hi : c.N[i]? = some n) (hln : c.sc.names.lookup n = some .local) (hg : GlS c x) (hdb : (x == ("__debug__" : Str)) = false) (hm : c.mg x = some cv) (r : HdY c hds l) :
      HdY c (.ExceptHandler (some (.Name x np)) (some n) (b₀ :: suite) pos' :: hds) ((cv, i, b₀ :: suite) :: l)
section
variable {c : Ct} {ρ : EnvT} {σ : Sg} {D : EndT}
end
end Y

/-! Yb: + - * of an instance and any other value. -/
namespace PySem.W
open PySem PySem.Calls PyProof.Rows Builtin
section
variable {prog : Program} {w : World} {A : Around} {E : Value → Shared → Prop} {s : Shared} {K : Frag} {x C L f : Addr} {h₀ : Heap} {m : Str → Option Value} {ox : Obj} {od : Option Obj}
end
end PySem.W
namespace Y
open PySem PySem.Spec PyProof.Rows L2 SX Z
def tys : List String := ["NoneType", "bool", "int", "str", "list", "tuple", "dict"]
theorem tyT_mem {σ : Sg} {y : DT} {T : String} (h : tyT σ y = some T) : T ∈ tys := by
  unfold tys
  cases y <;> (try (cases h; done)) <;> (try (cases h; simp; done))
  rename_i p
  unfold tyT at h
  cases e : σ p with
  | none => simp [e] at h
  | some cc => cases cc <;> simp [e] at h <;> subst h <;> simp
/-- what is asked of the class, for + - * -/
structure OpC (K : PySem.W.Frag) (C : Addr) (r : Str) : Prop where
  sf : PySem.W.selfFirst K C = true
  sub : ∀ T ∈ tys, PySem.W.subIn K (.type T) (.ref C) = some false
  r : PySem.W.findIn K (.ref C) r = some none
section
variable {c : Ct} {ρ : EnvT} {σ : Sg} {Q : DT → Sg → Prop} {E : TX} {a b : Expr} {pos : Pos} {C : Addr} {k : Nat} {ps : List Str} {spec : TSpec} {m : Str}
end
end Y

/-! Yp: three names at once; operators as values; == of a tree and itself. -/
namespace Y
open PySem PySem.Spec PyProof.Rows L2 SX Z
section
variable {c : Ct} {ρ : EnvT} {σ : Sg} {D : EndT} {a b e3 : Expr} {pos : Pos} {x y z : Str}
end
section
variable {c : Ct} {ρ : EnvT} {σ : Sg} {a b : Expr} {pos : Pos} {C : Addr} {k : Nat} {ps : List Str} {spec : TSpec} {m : Str} {d y : DT} {fs : List (Str × DT)}
end
section
variable {c : Ct} {ρ : EnvT} {σ : Sg} {tg iter kx vx ifx : Expr} {scope : Scope} {pos : Pos} {own : List (Str × Nat)} {t : TgS}
end
end Y

set_option autoImplicit false
/-! min of a list of texts -/
namespace Y
open PySem PySem.Spec L2 SX Z
end Y

set_option autoImplicit false
/-! list slices with a step -/
namespace Y
open PySem PySem.Spec PyProof.Rows L2 SX Z
section
variable {c : Ct} {ρ : EnvT} {σ : Sg} {Q : DT → Sg → Prop} {E : TX} {e : Expr} {pos p3 : Pos} {lo st : Option Expr} {l : Option Int} {z : Int} {xs : List DT} {x : DT}
end
end Y

set_option autoImplicit false
/-! list.pop(i); list(d) as a cell -/
namespace Y
open PySem PySem.Spec PyProof.Rows L2 SX Z
section
variable {c : Ct} {ρ : EnvT} {σ : Sg} {P : DT → Sg → Prop} {p : Addr} {xs : List DT} {d : DT}
end
section
variable {c : Ct} {ρ : EnvT} {σ : Sg} {Q : DT → Sg → Prop} {E : TX} {a : Expr} {p pos : Pos}
end
end Y

set_option autoImplicit false
/-! list(d.items()), raw -/
namespace YK
open PySem PySem.W PySem.Calls PyProof.Rows PyProof.V PySem.Spec DT
section
variable {prog : Program} {w : World} {A : Around} {E : Value → Shared → Prop} {s : Shared} {r d : Addr} {es : Array DictEntry} {ep : Nat}
end
end YK

set_option autoImplicit false
/-! list(d.items()) -/
namespace Y
open PySem PySem.Spec PyProof.Rows L2 SX Z
open L2.DX (itemsO itemsO_ok)
end Y

set_option autoImplicit false
/-! list(d.items()) over trees -/
namespace Y
open PySem PySem.Spec PyProof.Rows L2 SX Z
open L2.DX (itemsO itemsO_ok)
section
variable {c : Ct} {ρ : EnvT} {σ : Sg} {Q : DT → Sg → Prop} {E : TX} {o : Expr} {p pos apos mpos : Pos} {x : DT} {kvs : List (DK × DT)}
end
end Y

/-! Yn: == and != of an instance and a value of a built-in type, either way round. -/
namespace PySem.W
open PySem PySem.Calls PyProof.Rows Builtin
open _root_.PySem.AutoSeq1 (wpAny_loadPart')
section
variable {prog : Program} {w : World} {M : Model} {A : Around} {E : Value → Shared → Prop} {s : Shared} {K : Frag} {x C f : Addr} {ox : Obj} {od : Option Obj}
end
section
variable {K : Frag} {C : Addr}
end
end PySem.W
namespace Y
open PySem PySem.Spec PyProof.Rows L2 SX Z
/-- the class is below no built-in type -/
structure BkC (K : PySem.W.Frag) (C : Addr) : Prop where
  up : ∀ T ∈ tys, PySem.W.subIn K (.ref C) (.type T) = some false
  dn : ∀ T ∈ tys, PySem.W.subIn K (.type T) (.ref C) = some false
/-- a tree of a built-in type -/
def bi : DT → Bool
  | .non => true | .bl _ => true | .int _ => true | .str _ => true | .lst _ => true | .tup _ => true | .dct _ => true
  | _ => false
section
variable {c : Ct} {σ : Sg} {y : DT} {C : Addr} {fs : List (Str × DT)} {k : Nat} {ps : List Str} {spec : TSpec} {b : Bool}
theorem bi_ty (h : bi y = true) : ∃ T, (∀ σ : Sg, tyT σ y = some T) ∧ T ∈ tys := by
  cases y <;> first | (cases h; done) | exact ⟨_, fun _ => rfl, by simp [tys]⟩
end
end Y
namespace PySem.W
open PySem PySem.Calls PyProof.Rows Builtin
section
variable {prog : Program} {w : World} {A : Around} {E : Value → Shared → Prop} {h : Heap} {g : Array GenState} {d : Drawn} {t : Nat} {os : OsState} {C x f : Addr} {b : Value} {B T : String} {bm : List Value} {K : Frag}
end
end PySem.W
namespace Y
open PySem PySem.Spec PyProof.Rows L2 SX Z
section
variable {c : Ct} {σ : Sg} {y : DT} {C : Addr} {fs : List (Str × DT)} {k : Nat} {ps : List Str} {spec : TSpec} {b : Bool}
end
end Y
namespace Y
open PySem PySem.Spec PyProof.Rows L2 SX Z
section
variable {c : Ct} {ρ : EnvT} {σ : Sg} {Q : DT → Sg → Prop} {E : TX} {e : Expr} {pos : Pos} {x : DT} {xs : List DT}
end
section
variable {c : Ct} {ρ : EnvT} {σ : Sg} {Q : DT → Sg → Prop} {E : TX} {a b : Expr} {pos p : Pos}
end
section
variable {c : Ct} {ρ : EnvT} {σ : Sg} {o : Expr} {p pos apos mpos : Pos} {x : DT} {kvs : List (DK × DT)}
end
end Y

/-! Yz: sorted(set(xs)), xs a list of texts. -/
namespace Y
open PySem PySem.Spec PyProof.Rows L2 SX Z
open PySem.Froz (SD sObj TxOk addTx tailTx)
def txt : Value → Str
  | .str k _ => k
  | _ => Str.empty
/-- the set of the texts l at a, each once; it can be walked -/
def SetTx (P : Program) (w : World) (h : Heap) (a : Addr) (l : List Str) : Prop := ∃ D : SD, h.get? a = some (sObj "set" D) ∧ TxOk P w D l ∧ (w.params.followText "set-order" = true ∨ D.2.2.led = true) ∧ Ris D.2.2.place.toList ∧ (D.1.toList.map fun e => txt e.2).Perm l
theorem SetTx.mv {P : Program} {w : World} {h h' : Heap} {a : Addr} {l : List Str} (R : SetTx P w h a l) (k : ∀ o, h.get? a = some o → h'.get? a = some o) : SetTx P w h' a l :=
  let ⟨D, e, r⟩ := R
  ⟨D, k _ e, r⟩
section
variable {P : Program} {w : World} {A : Around} {E : Value → Shared → Prop} {s : Shared}
end
end Y
namespace Y
open PySem PySem.Spec PyProof.Rows L2 SX Z
section
variable {c : Ct} {ρ : EnvT} {σ : Sg} {a : Expr} {pos p p2 q : Pos} {l : List (List Nat)} {Q : DT → Sg → Prop} {E : TX} {x : DT}
end
end Y

/-! Yoc: instances that change (cells): properties, methods, len; list.count, dict.clear. -/
namespace Y
open PySem PySem.Spec PyProof.Rows L2 SX Z
section
variable {c : Ct} {ρ : EnvT} {σ : Sg} {Q : DT → Sg → Prop} {E : TX} {e a o : Expr} {es : List Expr} {pos p apos : Pos} {d x : DT} {C : Addr} {fs : List (Str × DT)} {f m : Str} {k : Nat} {ps : List Str} {spec : TSpec} {D : EndT}
end
section
variable {c : Ct} {σ : Sg} {x y d : DT} {C : Addr} {fs gs : List (Str × DT)} {k : Nat} {ps : List Str} {spec : TSpec} {b : Bool} {n : Nat}
end
/-! ### list.count of texts -/
section
variable {c : Ct} {σ : Sg} {x : DT} {l : List (List Nat)} {k : List Nat}
end
section
variable {c : Ct} {ρ : EnvT} {σ : Sg} {Q : DT → Sg → Prop} {E : TX} {o : Expr} {pos apos : Pos} {C : Addr} {m : Str} {k : Nat} {ps : List Str} {spec : TSpec}
end
end Y

/-! Yst: name, *rest = a tuple; defs with *args, called as methods. -/
namespace Y
open PySem PySem.Spec PyProof.Rows L2 L2H SX Z HotX
section
variable {prog : Program} {w : World} {A : Around} {E : Value → Shared → Prop} {s : Shared}
theorem starT1 {l : Addr} {items : Array Value} {x : Value} {xs : List Value} {Q : List Value → Shared → Prop} (hl : IsTup s.heap l items) (hh : A.handled = none) (hx : items.toList = x :: xs) (hz : items.size ≤ 16384)
    (h : ∀ h2 tk, Heap.ExtBut s.heap.objs.size s.heap h2 → Q [x, .ref h2.objs.size] { s with heap := h2.push { cls := .type "list", data := .seq xs.toArray }, toks := tk }) : wpAny (model prog w) A (unpackItems (.ref l) 2 (some 1)) Q E s := by
  have hlt : l ≠ s.heap.objs.size := by obtain ⟨o, ho, _⟩ := hl; exact Nat.ne_of_lt (Heap.lt_size ho)
  have hsz : items.size = xs.length + 1 := by rw [← Array.length_toList, hx, List.length_cons]
  unfold unpackItems
  refine wpAny_bind ?_
  unfold notIterableAtAll
  refine wpAny_bind (wpAny_specialOf hl.typeIs slot_tuple_iter.lookup ?_)
  refine wpAny_pure ?_
  simp only [Bool.false_eq_true, if_false]
  refine wpAny_bind (wpAny_holding (iter_tuple hl ?_))
  refine wpAny_bind (wpAny_holding (draw_tuple hlt 1 0 _ _ ⟨_, Heap.get?_push_size _ rfl, rfl, rfl⟩ (hl.push _) (by omega) fun h₁ hit₁ hs₁ => ?_))
  have hl₁ : IsTup h₁ l items := (hl.push _).extBut hs₁.extBut hlt
  rw [Nat.zero_add] at hit₁
  have hit₁' := hit₁
  obtain ⟨oi, hoi, _⟩ := hit₁'
  have hl₁' := hl₁
  obtain ⟨ol, hol, _⟩ := hl₁'
  rw [List.drop_zero, hx]
  show wpAny _ _ (if ([x] : List Value).length < 1 then _ else _) _ _ _
  rw [if_neg (by simp)]
  refine wpAny_bind (wpAny_holding (PySem.W.kun_collect (s := { s with heap := h₁ }) (T := "tuple_iterator") (.inr (.inr (.inr rfl))) (Walks.tuple (A := A.in1) hh s.heap.objs.size l hlt items) (fun j u st => st.1.typeIs) (k := 1) (by omega) ⟨hit₁, hl₁⟩ (Heap.lt_size hoi) (Heap.lt_size hol) (fun h₂ tk hk => ?_) (by rw [sizeLine_eq]; omega)))
  rw [hx]
  show wpAny _ _ (if xs.length < 0 then _ else _) _ _ _
  rw [if_neg (by omega)]
  show wpAny _ _ (newList (xs.take (xs.length - 0)) >>= fun d => pure ([x] ++ [d] ++ xs.drop (xs.length - 0))) _ _ _
  rw [Nat.sub_zero, List.take_length, List.drop_length]
  have he : Heap.ExtBut s.heap.objs.size s.heap h₂ := fun b o hb e => hk b o hb (hs₁.extBut b o hb (Heap.get?_push_of_some _ e))
  exact wpAny_bind (wpAny_newObj_type (wpAny_pure (h h₂ tk he)) (by show xs.toArray.size ≤ sizeLine; rw [List.size_toArray, sizeLine_eq]; omega))
end
def gStar (K : PySem.W.Frag) (t : TGs) : TG := fun v σ H Q => ∃ a x xs, v = .ref a ∧ SqT K H a (x :: xs) ∧ xs.length ≤ 16000 ∧ ∀ p, H p = none → t [x, .ref p] σ (upd H p (.lst xs)) Q
section
variable {X : Cx}
theorem pg_star {t1 t2 : Expr} {p3 pos : Pos} {k : Nat} {t : TGs} (hc : X.calm = true) (h : PGs X [t1, t2] t) (e1 : assignEach [t1, .Starred t2 p3] X.env = [(false, assign t1 X.env), (true, assign t2 X.env)])
    (e2 : assignEach [t1, t2] X.env = [(false, assign t1 X.env), (false, assign t2 X.env)]) : PG X (.Tuple [t1, .Starred t2 p3] k pos) (gStar X.K t) := by
  refine ⟨fun pins s σ H v u Q I r hw => ?_⟩
  obtain ⟨a, x, xs, rfl, hq, hl, hw⟩ := hw
  cases r
  obtain ⟨its, rv, ht, hz⟩ := I.tuple hq
  cases rv with
  | cons r1 rr =>
    rename_i u us
    have hu := rr.length
    rw [assign_Tuple]
    refine wpAny_bind (wpAny_standAt ?_)
    unfold unpack
    rw [e1]
    refine wpAny_bind (wpAny_holding (starT1 (x := u) (xs := us) ht (I.ok.hd hc) (by simp) (by rw [List.size_toArray, List.length_cons]; omega) fun h2 tk hx => ?_))
    have I1 : Inv X pins σ H { s with heap := h2, toks := tk } := I.kept (t' := tk) fun b o e => hx b o (Nat.ne_of_lt (Heap.lt_size e)) e
    have hn : H h2.objs.size = none := I1.hok.fresh (Nat.le_refl _)
    have I2 : Inv X pins σ (upd H h2.objs.size (.lst xs)) { s with heap := h2.push { cls := .type "list", data := .seq us.toArray }, toks := tk } := I1.laid (t' := tk) (a := h2.objs.size) (fun b o e => Heap.get?_push_of_some _ e) (Nat.le_refl _) ⟨by rw [sizeLine_eq]; omega, us, 0, rr, Heap.get?_push_size _ rfl⟩
    have z := h.run pins _ σ (upd H h2.objs.size (.lst xs)) [x, .ref h2.objs.size] [u, .ref h2.objs.size] Q I2 (.cons r1 (.cons rfl .nil)) (hw _ hn)
    rw [e2] at z
    exact z
end
section
variable {c : Ct} {ρ : EnvT} {σ : Sg} {D : EndT} {e : Expr} {x y : Str} {p1 p2 p3 pt pos : Pos} {k i j : Nat}
/-- x, *y = a tuple -/
theorem ts_star [Calm c] (hn : IsNs c [.Name x p1, .Name y p2] [i, j]) (h : TE c e ρ σ (fun d σ1 => ∃ a ds, d = .tup (a :: ds) ∧ ds.length ≤ 16000 ∧ D.nx ((ρ.set i (some a)).set j (some (.lst ds))) σ1) (xD D ρ)) (hs : ∀ env, swapsWithSole [.Tuple [.Name x p1, .Starred (.Name y p2) p3] k pt] e pos.line env = pure false := by intro _; rfl) (hw : ∀ env, swappedStores [.Tuple [.Name x p1, .Starred (.Name y p2) p3] k pt] e env = pure none := by intro _; rfl) : TS c (.Assign [.Tuple [.Name x p1, .Starred (.Name y p2) p3] k pt] e pos) ρ σ D := ⟨fun X hX st H K w re D' f => by
  have hX' := hX
  cases hX' with
  | mk _ k' Wx fa hpp hrH hcf hh hp' ht hf hN hU hst =>
    obtain rfl : hpp = none := ‹Calm _›.h
    obtain ⟨hc, hr⟩ := hcf rfl
    obtain ⟨q1, q2, q3⟩ := pgs_names hX hn
    refine cS_of (ps_asg cE_pe (pg_star hc q1 rfl rfl) (hs _) (hw _)) ?_
    refine h.run X hX st H K w re (f.xc re) _ fun v d σ1 H1 K1 g1 w1 rv ⟨a, ds, h1, h2, q⟩ => ?_
    subst h1
    cases rv with
    | tup hsq ra =>
      cases ra with
      | cons r1 rr =>
        rename_i ad va vs
        refine ⟨ad, va, vs, rfl, same_sqt w1.le hsq, by rw [rr.length]; exact h2, fun p hp => ?_⟩
        obtain ⟨s2, w2⟩ := w1.new (o := .lst vs) hp
        exact gNs_of [i, j] [va, .ref p] st rfl (f.nx _ _ _ _ _ (g1.trans s2) w2 (((re.same g1.b).same s2.b).set (r1.same s2.b) i |>.set (.lst upd_same (rr.same s2.b)) j) q)⟩
end

/-! ### defs with *args -/
structure FnV (P : Program) (w : World) (F : PySem.W.Frag) (mg : Str → Option Value) (base : Heap) (k : Nat) (f : Addr) (sp : Sp) : Prop where
  run : ∀ A : Around, Room k A → A.guards = some [] → ∀ outer s K, Env0 P w F mg base A outer s K → ∀ us vs, Vals vs us → ∀ Q E, sp vs K Q E →
    codeAny (model P w) A (.call (.ref f) ⟨us, []⟩) (CR (L2N.CX P w) outer P w K s Q E) s
section
variable {P : Program} {w : World} {F : PySem.W.Frag} {mg : Str → Option Value} {base : Heap} {k : Nat} {f : Addr} {fd : FuncData} {N : List Str} {p1 pv : Str} {spec : TSpec}
end
section
variable {X : Cx} {W : WX} {k : Nat} {f : Addr} {sp : Sp}
end
section
variable {c : Ct} {ρ : EnvT} {σ : Sg} {Q : DT → Sg → Prop} {E : TX} {a o : Expr} {es : List Expr} {pos apos p1 p2 : Pos} {C : Addr} {m x : Str} {k : Nat} {spec : TSpec} {ds : List DT}
end
end Y

/-! Ysl: sum(lists, []); k in a list of texts; d.clear(); a dict comprehension that is a cell. -/
namespace Y
open PySem PySem.Spec PyProof.Rows L2 L2H SX Z HotX
section
variable {prog : Program} {w : World} {A : Around} {R : Result → Shared → Prop} {I ax : Addr} {items : Array Value}
end
section
variable {prog : Program} {w : World} {A : Around} {E : Value → Shared → Prop} {s : Shared} {ax y : Addr} {items b0 : Array Value} {n0 : Nat}
end

inductive LstsOf (H : Hp) : List V → List (List V) → Prop
  | nil : LstsOf H [] []
  | cons {b : Addr} {xs : List V} {ws : List V} {xss : List (List V)} : H b = some (.lst xs) → LstsOf H ws xss → LstsOf H (.ref b :: ws) (xs :: xss)
section
variable {c : Ct} {σ : Sg}
end

/-! ### k in a list of texts -/
theorem dec_S2 (z k : List Nat) : eqV (.str (S z)) (.str (S k)) = decide (z = k) := by
  show (S z == S k) = decide (z = k)
  by_cases h : z = k
  · subst h
    rw [decide_eq_true rfl]
    exact beq_self_eq_true _
  · rw [decide_eq_false h]
    refine Bool.eq_false_iff.mpr fun q => h ?_
    have := congrArg (fun y : Str => y.cps.toList) (eq_of_beq q)
    simpa [S_codes] using this
theorem inV_S (k : List Nat) : ∀ l : List (List Nat), inV (.str (S k)) (l.map fun z => V.str (S z)) = decide (k ∈ l)
  | [] => rfl
  | z :: l => by
    have e1 : inV (.str (S k)) ((z :: l).map fun z => V.str (S z)) = (eqV (.str (S z)) (.str (S k)) || inV (.str (S k)) (l.map fun z => V.str (S z))) := rfl
    have e2 : eqV (.str (S z)) (.str (S k)) = decide (z = k) := dec_S2 z k
    rw [e1, e2, inV_S k l]
    by_cases h : z = k
    · subst h; simp
    · have h' : ¬ k = z := fun q => h q.symm
      simp [h, h']
section
variable {c : Ct} {σ : Sg} {x : DT} {l : List (List Nat)} {k : List Nat}
theorem po_inT (hx : LsT σ x (l.map DT.str)) : PO2 c (compareOp .In) (.str k) x σ (.bl (decide (k ∈ l))) := ⟨fun X hX H K w v u rv ru Q q => by
  have hX' := hX
  cases hX'
  cases rv
  obtain ⟨a, ws, rfl, q1, r1⟩ := hx.now w ru
  rw [repA_strs r1] at q1
  refine cO_of op_in_seq ⟨a, _, rfl, .inl q1, rfl, ?_, ?_⟩
  · rw [List.all_eq_true]
    intro y hy
    obtain ⟨z, _, rfl⟩ := List.mem_map.mp hy
    rfl
  · have e : (if false = true then !inV (.str (S k)) (l.map fun z => V.str (S z)) else inV (.str (S k)) (l.map fun z => V.str (S z))) = decide (k ∈ l) := inV_S k l
    rw [e]
    exact q _ H K Gw.refl w (.bl _)⟩
end
/-! ### d.clear() -/
section
variable {c : Ct} {σ : Sg} {p : Addr} {kvs : List (DK × DT)} {P : DT → Sg → Prop}
end
/-! ### a dict comprehension that is a cell -/
section
variable {c : Ct} {ρ : EnvT} {σ : Sg} {tg iter kx vx : Expr} {scope : Scope} {pos : Pos} {own : List (Str × Nat)} {t : TgS} {Q : DT → Sg → Prop} {E : TX}
end
end Y

/-! Ymv: a < b <= c < d. -/
namespace Y
open PySem PySem.Spec PyProof.Rows L2 L2H SX Z HotX
section
variable {c : Ct} {ρ : EnvT} {σ : Sg} {a b : Expr} {x y z v : DT} {pos : Pos}
end

section
variable {c : Ct} {σ : Sg} {x : DT} {xs : List DT}
end
end Y

/-! Ylc: list(x) of a list, as a cell. -/
namespace Y
open PySem PySem.Spec PyProof.Rows L2 SX Z
section
variable {c : Ct} {ρ : EnvT} {σ : Sg} {Q : DT → Sg → Prop} {E : TX} {a : Expr} {p pos : Pos}
end
end Y

/-! Yox: == and != of instances that change. -/
namespace Y
open PySem PySem.Spec PyProof.Rows L2 SX Z
section
variable {c : Ct} {σ : Sg} {x y d : DT} {C : Addr} {fs gs : List (Str × DT)} {k : Nat} {ps : List Str} {spec : TSpec} {b : Bool} {n : Nat}
end
end Y

/-! Yoy: == and != of instances of two own classes; isinstance of an instance with another own class. -/
namespace PySem.W
open PySem PySem.Calls PyProof.Rows Builtin
section
variable {prog : Program} {w : World} {A : Around} {E : Value → Shared → Prop} {h : Heap} {g : Array GenState} {d : Drawn} {t : Nat} {os : OsState} {C D x f : Addr} {b : Value} {B : String} {bm : List Value} {K : Frag}
end
end PySem.W
namespace Y
open PySem PySem.Spec PyProof.Rows L2 SX Z
/-- D is another class than C, and not below it -/
structure OtC (K : PySem.W.Frag) (C D : Addr) : Prop where
  su : PySem.W.subIn K (.ref D) (.ref C) = some false
  ki : PySem.W.kitOne K (.ref D) (.ref C) = some false
section
variable {c : Ct} {σ : Sg} {x y d : DT} {C D : Addr} {fs gs : List (Str × DT)} {k : Nat} {ps : List Str} {spec : TSpec} {b : Bool} {n : Nat}
end
end Y
namespace Y
open PySem PySem.Spec L2 SX Z
section
variable {c : Ct} {ρ : EnvT} {σ : Sg} {D : EndT} {s : Stmt} {r : List Stmt}
/-- what several ways through a statement have in common -/
theorem tk_join (I : EnvT → Sg → Prop) (h : TS c s ρ σ { D with nx := I }) (k : ∀ ρ' σ', I ρ' σ' → TBk c r ρ' σ' D) : TBk c (s :: r) ρ σ D := tk_cons (h.imp k (fun _ _ q => q) (fun _ _ q => q) (fun _ _ q => q) (fun _ _ _ _ q => q))
end
end Y

/-! Ych: a < b <= c < d with any answer. -/
namespace Y
open PySem PySem.Spec PyProof.Rows L2 L2H SX Z HotX
def tChain3G (r r' r'' : R2) (ta tb tc td : L2.TE) : L2.TE := fun σ H Q => ta σ H fun x H1 => tb σ H1 fun y H2 => r x y H2 fun z H3 => ∃ k, z = .bl k ∧ (k = false → Q (.bl false) H3) ∧ (k = true → tc σ H3 fun w H4 => r' y w H4 fun z' H5 => ∃ k', z' = .bl k' ∧ (k' = false → Q (.bl false) H5) ∧ (k' = true → td σ H5 fun v H6 => r'' w v H6 Q))
theorem pe_chain3G {X : Cx} {a b c d : Expr} {ta tb tc td : L2.TE} {op op' op'' : CmpOp} {r r' r'' : R2} {pos : Pos} (ho : OpR X (compareOp op) r) (ho' : OpR X (compareOp op') r') (ho'' : OpR X (compareOp op'') r'') (ha : PE X a ta) (hb : PE X b tb) (hc : PE X c tc) (hd : PE X d td)
    (hm : lastMarks [op, op', op''] [b, c, d] = false) : PE X (.Compare a [op, op', op''] [b, c, d] pos) (tChain3G r r' r'' ta tb tc td) := by
  refine ⟨fun pins s σ H Q I h => ?_⟩
  refine Compare_chain (thn (ha.run pins s σ H _ I h) fun v s1 ⟨x, H1, I1, r1, q1⟩ => chain_link (thn (hb.run pins s1 σ H1 _ I1 q1) fun u s2 ⟨y, H2, I2, r2, q2⟩ =>
    thn (ho pins s2 σ H2 x y v u _ I2 r1 r2 q2) fun d s3 ⟨z, H3, I3, r3, k, e, f3, q3⟩ => ?_)) hm
  subst e
  cases r3
  refine wpAny_truthy_bool ?_
  cases k with
  | false => exact ite_ff ⟨.bl false, H3, I3, rfl, f3 rfl⟩
  | true =>
    refine ite_tt (chain_link (thn (hc.run pins s3 σ H3 _ I3 (q3 rfl)) fun w' s4 ⟨z', H4, I4, r4, q4⟩ => thn (ho' pins s4 σ H4 y z' u w' _ I4 r2 r4 q4) fun d' s5 ⟨z2, H5, I5, r5, k', e2, f5, q5⟩ => ?_))
    subst e2
    cases r5
    refine wpAny_truthy_bool ?_
    cases k' with
    | false => exact ite_ff ⟨.bl false, H5, I5, rfl, f5 rfl⟩
    | true => exact ite_tt (chain_last (thn (hd.run pins s5 σ H5 _ I5 (q5 rfl)) fun w2 s6 ⟨z3, H6, I6, r6, q6⟩ => ho'' pins s6 σ H6 z' z3 w' w2 Q I6 r4 r6 q6))
section
variable {c : Ct} {ρ : EnvT} {σ : Sg} {a b : Expr} {x y z v : DT} {pos : Pos}
theorem tv_chain3G {d e : Expr} {o o' o'' : CmpOp} {r s t : Bool} (ha : TV c a ρ σ x) (hb : TV c b ρ σ y) (hd : TV c d ρ σ z) (he : TV c e ρ σ v) (ho : PO2 c (compareOp o) x y σ (.bl r)) (ho' : PO2 c (compareOp o') y z σ (.bl s)) (ho'' : PO2 c (compareOp o'') z v σ (.bl t))
    (hm : lastMarks [o, o', o''] [b, d, e] = false := by with_unfolding_all rfl) : TV c (.Compare a [o, o', o''] [b, d, e] pos) ρ σ (.bl (r && (s && t))) := ⟨fun {Q E} q => ⟨fun X hX st H K w rr xc Q' f => by
  refine cE_of (pe_chain3G cO_or cO_or cO_or cE_pe cE_pe cE_pe cE_pe hm) ?_
  refine (ha.to (Q := fun d σ' => d = x ∧ σ' = σ) ⟨rfl, rfl⟩).run X hX st H K w rr xc _ fun v1 d1 σ1 H1 K1 s1 w1 r1 ⟨z1, z2⟩ => ?_
  subst z1 z2
  refine (hb.to (Q := fun d σ' => d = y ∧ σ' = σ1) ⟨rfl, rfl⟩).run X hX st H1 K1 w1 (rr.same s1.b) (xc.next s1) _ fun u d2 σ2 H2 K2 s2 w2 r2 ⟨z1, z2⟩ => ?_
  subst z1 z2
  refine ho.run X hX H2 K2 w2 v1 u (r1.same s2.b) r2 _ fun q1 H3 K3 s3 w3 r3 => ?_
  cases r3
  have g3 := s1.trans (s2.trans s3)
  refine ⟨r, rfl, fun e => ?_, fun e => ?_⟩
  · subst e
    exact f _ _ _ H3 K3 g3 w3 (.bl false) q
  subst e
  refine (hd.to (Q := fun d σ' => d = z ∧ σ' = σ2) ⟨rfl, rfl⟩).run X hX st H3 K3 w3 (rr.same g3.b) (xc.next g3) _ fun u3 d3 σ3 H4 K4 s4 w4 r4 ⟨z1, z2⟩ => ?_
  subst z1 z2
  refine ho'.run X hX H4 K4 w4 u u3 (r2.same (s3.trans s4).b) r4 _ fun q2 H5 K5 s5 w5 r5 => ?_
  cases r5
  have g5 := g3.trans (s4.trans s5)
  refine ⟨s, rfl, fun e => ?_, fun e => ?_⟩
  · subst e
    exact f _ _ _ H5 K5 g5 w5 (.bl false) q
  subst e
  refine (he.to (Q := fun d σ' => d = v ∧ σ' = σ3) ⟨rfl, rfl⟩).run X hX st H5 K5 w5 (rr.same g5.b) (xc.next g5) _ fun u4 d4 σ4 H6 K6 s6 w6 r6 ⟨z1, z2⟩ => ?_
  subst z1 z2
  exact ho''.run X hX H6 K6 w6 u3 u4 (r4.same (s5.trans s6).b) r6 _ fun q3 H7 K7 s7 w7 r7 => f _ _ _ H7 K7 (g5.trans (s6.trans s7)) w7 r7 q⟩⟩
end
end Y

/-! Ytp: tuples put together; any slice of a tuple. -/
namespace Y
open PySem PySem.Spec L2 SX Z
section
variable {c : Ct} {σ : Sg} {xs ys : List DT}
end
end Y

/-! Yct: a < b <= c < d as a test. -/
namespace Y
open PySem PySem.Spec PyProof.Rows L2 L2H SX Z HotX
section
variable {c : Ct} {ρ : EnvT} {σ : Sg} {a b : Expr} {x y z v : DT} {pos : Pos}
end
end Y

/-! Yre: repr of a text, list.extend. -/
namespace Y
open PySem PySem.Spec L2 SX Z
section
variable {c : Ct} {σ : Sg} {x : DT} {xs ys : List DT} {s : List Nat} {p : Addr} {P : DT → Sg → Prop}
theorem tm_extend (h : σ p = some (.lst xs)) (hl : xs.length + ys.length ≤ 16777216) (q : P .non (su σ p (.lst (xs ++ ys)))) : TOM c "list.extend" (.ref p) [.lst ys] σ P := ⟨fun X hX H K w v vs rv ra Q' fo => by
  cases rv
  obtain ⟨u, rfl, ru⟩ := repA_one ra
  obtain ⟨us, e, r1⟩ := w.on p _ h
  cases ru with
  | lst hs r2 =>
    refine cM_of mt_extend ⟨p, _, us, _, rfl, rfl, e, w.le _ _ hs, by rw [r1.length, r2.length, sizeLine_eq]; exact hl, ?_⟩
    exact fo _ _ _ H _ (Gw.write h) (w.write h (c' := .lst (xs ++ ys)) ⟨_, upd_same, r1.append r2⟩) .non q⟩
end
end Y

/-! Ycn: a chain of comparisons of any length that all hold, as a test. -/
namespace Y
open PySem PySem.Spec PyProof.Rows L2 L2H SX Z HotX
def tChN : List (R2 × L2.TE) → V → L2.TT
  | [], _ => fun _ _ _ => False
  | [(r, t)], x => fun σ H Q => t σ H fun y H1 => r x y H1 fun z H2 => ∃ k, z = .bl k ∧ Q k H2
  | (r, t) :: q :: l, x => fun σ H Q => t σ H fun y H1 => r x y H1 fun z H2 => z = .bl true ∧ tChN (q :: l) y σ H2 Q
inductive LkT (X : Cx) : List CmpOp → List Expr → List (R2 × L2.TE) → Prop
  | last {op b r t} : OpR X (compareOp op) r → PE X b t → LkT X [op] [b] [(r, t)]
  | link {op b r t o' os b' bs q l} : OpR X (compareOp op) r → PE X b t → LkT X (o' :: os) (b' :: bs) (q :: l) → LkT X (op :: o' :: os) (b :: b' :: bs) ((r, t) :: q :: l)
theorem lkT_run {X : Cx} {pos : Pos} {os : List CmpOp} {bs : List Expr} {l : List (R2 × L2.TE)} (h : LkT X os bs l) : ∀ (pins : List (Addr × Obj)) (s : Shared) (σ : L2.St) (H : Hp) (x : V) (v : Value) (Q : Bool → Hp → Prop), Inv X pins σ H s → RelV x v → tChN l x σ H Q →
    wpAny (model X.prog X.w) X.A (testChain pos v os (evalEach bs X.env)) (TP X pins σ Q) X.xe s := by
  induction h with
  | last ho hb =>
    intro pins s σ H x v Q I r1 q
    exact test_last (thn (hb.run pins s σ H _ I q) fun u s2 ⟨y, H2, I2, r2, q2⟩ => thn (ho pins s2 σ H2 x y v u _ I2 r1 r2 q2) fun d s3 ⟨z, H3, I3, r3, k, e, q3⟩ => by
      subst e
      cases r3
      exact wpAny_truthy_bool ⟨H3, I3, q3⟩)
  | link ho hb _ ih =>
    intro pins s σ H x v Q I r1 q
    exact test_link (thn (hb.run pins s σ H _ I q) fun u s2 ⟨y, H2, I2, r2, q2⟩ => thn (ho pins s2 σ H2 x y v u _ I2 r1 r2 q2) fun d s3 ⟨z, H3, I3, r3, e, q3⟩ => by
      subst e
      cases r3
      exact wpAny_truthy_bool (ite_tt (ih pins s3 σ H3 y u Q I3 r2 q3)))
theorem pt_chainN {X : Cx} {a b b' : Expr} {ta : L2.TE} {op op' : CmpOp} {os : List CmpOp} {bs : List Expr} {l : List (R2 × L2.TE)} {pos : Pos} (ha : PE X a ta) (h : LkT X (op :: op' :: os) (b :: b' :: bs) l)
    (hm : lastMarks (op :: op' :: os) (b :: b' :: bs) = false) : PT X (.Compare a (op :: op' :: os) (b :: b' :: bs) pos) (fun σ H Q => ta σ H fun x H1 => tChN l x σ H1 Q) :=
  ⟨fun pins s σ H Q I q => isTrue_chain (thn (ha.run pins s σ H _ I q) fun v s1 ⟨x, H1, I1, r1, q1⟩ => lkT_run h pins s1 σ H1 x v Q I1 r1 q1) hm⟩
/-- the links of a chain that holds -/
inductive TrC (c : Ct) (ρ : EnvT) (σ : Sg) : DT → List CmpOp → List Expr → Prop
  | last {x y o b} : TV c b ρ σ y → PO2 c (compareOp o) x y σ (.bl true) → TrC c ρ σ x [o] [b]
  | link {x y o b o' os b' bs} : TV c b ρ σ y → PO2 c (compareOp o) x y σ (.bl true) → TrC c ρ σ y (o' :: os) (b' :: bs) → TrC c ρ σ x (o :: o' :: os) (b :: b' :: bs)
section
variable {c : Ct} {ρ : EnvT} {σ : Sg}
def lkL (X : Cx) : List CmpOp → List Expr → List (R2 × L2.TE)
  | o :: os, b :: bs => (cO X (compareOp o), cE X b) :: lkL X os bs
  | _, _ => []
theorem trc_lk {x : DT} {os : List CmpOp} {bs : List Expr} (h : TrC c ρ σ x os bs) (X : Cx) : LkT X os bs (lkL X os bs) := by
  induction h with
  | last _ _ => exact .last cO_or cE_pe
  | link _ _ _ ih => exact .link cO_or cE_pe ih
theorem trc_run {x : DT} {os : List CmpOp} {bs : List Expr} (h : TrC c ρ σ x os bs) : ∀ X, Con c X → ∀ (E : TX) st H K, Wd c.K H σ K → REnv c.K H ρ st → XC c H σ K st E → ∀ v, Rep c.K H v x → ∀ Q' : Bool → Hp → Prop, (∀ H' K', Gw H σ K H' σ K' → Wd c.K H' σ K' → Q' true K') → tChN (lkL X os bs) v st K Q' := by
  induction h with
  | last hb ho =>
    rename_i x y o b
    intro X hX E st H K w rr xc v r1 Q' f
    refine (hb.to (Q := fun d σ' => d = y ∧ σ' = σ) ⟨rfl, rfl⟩).run X hX st H K w rr xc _ fun u d2 σ2 H2 K2 s2 w2 r2 ⟨z1, z2⟩ => ?_
    subst z1 z2
    refine ho.run X hX H2 K2 w2 v u (r1.same s2.b) r2 _ fun q1 H3 K3 s3 w3 r3 => ?_
    cases r3
    exact ⟨true, rfl, f H3 K3 (s2.trans s3) w3⟩
  | link hb ho _ ih =>
    rename_i x y o b o' os b' bs _
    intro X hX E st H K w rr xc v r1 Q' f
    refine (hb.to (Q := fun d σ' => d = y ∧ σ' = σ) ⟨rfl, rfl⟩).run X hX st H K w rr xc _ fun u d2 σ2 H2 K2 s2 w2 r2 ⟨z1, z2⟩ => ?_
    subst z1 z2
    refine ho.run X hX H2 K2 w2 v u (r1.same s2.b) r2 _ fun q1 H3 K3 s3 w3 r3 => ?_
    cases r3
    have g3 := s2.trans s3
    exact ⟨rfl, ih X hX E st H3 K3 w3 (rr.same g3.b) (xc.next g3) u (r2.same s3.b) Q' fun H4 K4 s4 w4 => f H4 K4 (g3.trans s4) w4⟩
theorem tb_chainN {a b b' : Expr} {o o' : CmpOp} {os : List CmpOp} {bs : List Expr} {x : DT} {pos : Pos} (ha : TV c a ρ σ x) (h : TrC c ρ σ x (o :: o' :: os) (b :: b' :: bs))
    (hm : lastMarks (o :: o' :: os) (b :: b' :: bs) = false := by with_unfolding_all rfl) : TB c (.Compare a (o :: o' :: os) (b :: b' :: bs) pos) ρ σ true := ⟨fun {Q E} q => ⟨fun X hX st H K w rr xc Q' f => by
  refine cT_of (pt_chainN cE_pe (trc_lk h X) hm) ?_
  refine (ha.to (Q := fun d σ' => d = x ∧ σ' = σ) ⟨rfl, rfl⟩).run X hX st H K w rr xc _ fun v1 d1 σ1 H1 K1 s1 w1 r1 ⟨z1, z2⟩ => ?_
  subst z1 z2
  exact trc_run h X hX E st H1 K1 w1 (rr.same s1.b) (xc.next s1) v1 r1 Q' fun H2 K2 s2 w2 => f _ _ _ H2 K2 (s1.trans s2) w2 rfl q⟩⟩
end
end Y

/-! Ydg: d.get(k); a dict comprehension whose keys may come again. -/
namespace Y
open PySem PySem.Spec PyProof.Rows L2 SX Z
section
variable {c : Ct} {ρ : EnvT} {σ : Sg} {x d : DT} {k : DK} {kvs : List (DK × DT)} {tg iter kx vx : Expr} {scope : Scope} {pos : Pos} {own : List (Str × Nat)} {t : TgS}
end
end Y

/-! Ynd: x not in l, for a list of data. -/
namespace Y
open PySem PySem.Spec PyProof.Rows L2 SX Z
section
variable {c : Ct} {σ : Sg} {x : DT} {ys : List DT}
theorem po_notInT {n m : Nat} (sm : ∃ ob, c.base.get? sysModules = some ob) (h1 : Sh n x) (h2 : Sh m (.lst ys)) (hn : n ≤ 60) (hm : m ≤ 64) : PO2 c (compareOp .NotIn) x (.lst ys) σ (.bl (!(toPyA ys).any fun z => PyData.eqv z (toPy x))) := ⟨fun X hX H K w v u rv ru Q k => by
  have hX' := hX
  cases hX' with
  | mk _ k' Wx fa hpp hrH hcf hh hp' htk hf' hN hU hst =>
    obtain ⟨p1, _, d1⟩ := sh_f n x h1
    have p2 := (sh_f m _ h2).1
    have s1 : SeqAt.shaped (toPy x) = true := sh_sh h1 (by omega)
    have s2 : SeqAt.shaped (toPy (.lst ys)) = true := sh_sh h2 hm
    have hu := hunits hrH
    intro pins s st v' u' I r1 r2
    obtain ⟨as, q1, _⟩ := Rep.reads w I sm x _ _ rv p1 r1
    obtain ⟨bs, q2, _⟩ := Rep.reads w I sm (.lst ys) _ _ ru p2 r2
    exact SeqAt.notIn_list_reads q2 q1 (SeqAt.canLay_of_shaped s2) (SeqAt.canLay_of_shaped s1) (by
      have := Nat.min_le_right (PyData.depthAll (toPyA ys)) (toPy x).depth
      omega) ⟨.bl _, K, I, rfl, k _ H K Gw.refl w (.bl _)⟩⟩
end
end Y

/-! Ysw: x[i], y[j] = a tuple, for lists that are cells. -/
namespace Y
open PySem PySem.Spec PyProof.Rows L2 SX Z
section
variable {c : Ct} {ρ : EnvT} {σ : Sg} {D : EndT} {e a b a2 b2 : Expr} {pos p1 p2 pt : Pos} {kt : Nat}
end
end Y

/-! Yls: list(text) as a cell. -/
namespace Y
open PySem PySem.Spec PyProof.Rows L2 SX Z
section
variable {c : Ct} {ρ : EnvT} {σ : Sg} {Q : DT → Sg → Prop} {E : TX} {a : Expr} {p pos : Pos}
end
end Y

/-! Yne: a list, perhaps one that changes, != []. -/
namespace Y
open PySem PySem.Spec PyProof.Rows L2 SX Z
section
variable {c : Ct} {σ : Sg} {x : DT} {xs : List DT}
end
end Y

/-! Ylr: a list comprehension with effects, given to a local name. -/
namespace Y
open PySem PySem.Spec L2 SX Z
section
variable {c : Ct} {ρ : EnvT} {σ : Sg} {D : EndT} {r : List Stmt} {tg iter elt : Expr} {scope : Scope} {pos : Pos} {own : List (Str × Nat)} {t : TgS} {x : Str} {p1 p2 : Pos}
end
end Y

/-! Yrb: repr of a bool, of None. -/
namespace Y
open PySem PySem.Spec L2 SX Z
section
variable {c : Ct} {σ : Sg}
theorem pf_reprB {b : Bool} : POF c (.builtin "repr") [.bl b] σ (.str (sOf (if b then "True" else "False"))) := ⟨fun X hX H K w vs ra Q k => by
  have hX' := hX
  cases hX'
  obtain ⟨v, rfl, rv⟩ := repA_one ra
  cases rv
  intro pins st s0 us I r
  obtain ⟨u, rfl, ru⟩ := vals1 r
  have ru : u = .bool b := ru
  subst ru
  refine PySem.P.repr_of_bool ⟨.str _, K, I.tok _, ⟨_, rfl⟩, k _ H K Gw.refl w ?_⟩
  have := Rep.str (F := X.K) (H := H) (sOf (if b then "True" else "False"))
  rwa [S_sOf] at this⟩
end
end Y

/-! Yih: isinstance of the handled exception with a tuple of own classes. -/
namespace Y
open PySem PySem.Spec PyProof.Rows L2 L2H HotX SX Z
section
variable {c : Ct} {σ : Sg} {fs : List (Str × DT)} {C a : Addr} {oe : Obj} {d : Option Addr} {cs : List Addr}
end
end Y

/-! Ygf: a for loop in a generator's body. -/
namespace L2
open PySem PySem.Spec PyProof.Rows GenW
section
variable {M : Model} {A : Around} {R : GenEnd} {Y : Protocol} {n : Nat} {s₀ : Shared} {c : Code} {fs : List Frame} {s : Shared} {env : Env}
  {K : Flow → Sem PySem.Fin} {H : Value → Sem PySem.Fin} {gd : Bool → Bool} {lv : List Value → List Value}
end
section
variable {prog : Program} {w : World} {A : Around} {R : GenEnd} {Y : Protocol} {n : Nat} {s₀ : Shared} {fs : List Frame} {s : Shared} {env : Env}
end
section
variable {X : Cx} {tg : Expr}
end
end L2

/-! Ygl: list(g(..)) of a generator def g, over trees; exceptions without a context, no guard known. -/
namespace Y
open PySem PySem.Spec PyProof.Rows L2 L2H HotX SX Z GenW

/-! ### the context of the body -/
section
variable {P : Program} {w : World} {F : PySem.W.Frag} {mg : Str → Option Value} {base : Heap} {N ps : List Str} {qual : Str} {scope : Scope} {f : Addr} {cd : Value} {A : Around} {outer : List Env} {s s1 : Shared} {K K' : Hp} {E : XK} {pn : List (Addr × Obj)}
end

/-! ### what a call makes, what list(..) takes -/
/-- all is out and stands in S -/
def FinG (P : Program) (w : World) (outer : List Env) (K : Hp) (s : Shared) (S : Addr) (Q : List V → Hp → Prop) (s1 : Shared) : Prop :=
  ∃ K' ys acc cc, s1.os = s.os ∧ AllBare s1.gens ∧ Un (frs outer) [] K K' s.heap s1.heap ∧ HOk P w K' s1.heap ∧ K' S = none ∧ s1.heap.get? S = some (lstObj acc cc) ∧ Vals ys acc.toList ∧ ys.length ≤ sizeLine ∧ Q ys K'
theorem FinG.kept {P : Program} {w : World} {outer : List Env} {K : Hp} {s s1 : Shared} {S : Addr} {g : Nat} {Q : List V → Hp → Prop} (x : FinG P w outer K s S Q s1) {h : Heap} (k : ∀ b o, s1.heap.get? b = some o → h.get? b = some o) : FinG P w outer K s S Q { s1.setGen g .finished with heap := h } := by
  obtain ⟨K', ys, acc, cc, x1, x2, x3, x4, x5, x6, x7, x8, x9⟩ := x
  exact ⟨K', ys, acc, cc, x1, allBare_setGen x2 rfl, x3.trans (Un.kept k), x4.kept k, x5, k _ _ x6, x7, x8, x9⟩
/-- a run's end -/
abbrev EndG (P : Program) (w : World) (outer : List Env) (K : Hp) (s : Shared) (S a : Addr) (g : Nat) (Q : List V → Hp → Prop) (E : XK) : GenEnd := fun _ _ r s1 =>
  ((r = .ok (.ret .none) ∨ r = .ok .next) ∧ FinG P w outer K s S Q s1) ∨ ∃ e, r = .error e ∧ (L2N.CX P w outer K s E e s1 ∧ s1.heap.IsGen a g)
/-- a generator that has not begun -/
def MadeG (P : Program) (w : World) (k : Nat) (outer : List Env) (K : Hp) (s : Shared) (Q : List V → Hp → Prop) (E : XK) (u : Value) (s1 : Shared) : Prop :=
  ∃ (a : Addr) (g : Nat) (c : Code), u = .ref a ∧ (s.heap.objs.size ≤ a ∧ a < s1.heap.objs.size) ∧ s1.heap.IsGen a g ∧ s1.gens[g]? = some (.fresh c) ∧ (s1.os = s.os ∧ AllBare s1.gens ∧ s1.heap.NoLimit) ∧ (∀ b o, s.heap.get? b = some o → s1.heap.get? b = some o) ∧
    ∀ (A : Around) (S : Addr) (s2 : Shared), Room k A → A.guards = some [] → A.frames = some outer → s1.heap.objs.size ≤ S → (∀ b o, s1.heap.get? b = some o → s2.heap.get? b = some o) → (∃ cc, s2.heap.get? S = some (lstObj #[] cc)) → s2.os = s.os → AllBare s2.gens →
      Seg (model P w) A (EndG P w outer K s S a g Q E) (YItem s S a g) sizeLine s2 c ((model P w).den c) [] s2
section
variable {P : Program} {w : World} {outer : List Env} {K : Hp} {sc : Shared} {Q : List V → Hp → Prop} {E : XK} {A : Around}
end
end Y

/-! Ygm: the promise of a generator def, its rule, list(g(..)). -/
namespace Y
open PySem PySem.Spec PyProof.Rows L2 L2H HotX SX Z GenW
structure FnGen (P : Program) (w : World) (F : PySem.W.Frag) (mg : Str → Option Value) (base : Heap) (k : Nat) (f : Addr) (fd : FuncData) (ps : List Str) (sp : SpG) : Prop where
  len : ∀ vs K Q E, sp vs K Q E → vs.length = ps.length
  run : ∀ A : Around, Room k A → A.guards = some [] → ∀ outer s K, Env0 P w F mg base A outer s K → ∀ args us vs, Vals vs us → BindsTo s fd args (ps.zip us) → ∀ Q E, sp vs K Q E →
    codeAny (model P w) A (.call (.ref f) args) (fun r s1 => ∃ u, r = .ok (.ret u) ∧ MadeG P w k outer K s Q E u s1) s
section
variable {P : Program} {w : World} {F : PySem.W.Frag} {mg : Str → Option Value} {base : Heap} {k : Nat} {f : Addr} {fd : FuncData} {ps N : List Str} {sp : SpG}
end
end Y

/-! Ygn: generator defs over trees: their bodies, list(g(..)). -/
namespace Y
open PySem PySem.Spec PyProof.Rows L2 L2H SX Z GenW
def cG (X : Cx) (b : List Stmt) : TGn := fun D ys st K => ∀ (A : Around) (S : Addr) (ip : List (Addr × Obj)) (R : GenEnd) (n : Nat) (t0 : Shared) (c0 : Code) (fs : List Frame) (J : Flow → Sem PySem.Fin) (L : Value → Sem PySem.Fin) (gd : Bool → Bool) (lv : List Value → List Value) (s : Shared),
  GC X S ip A c0 fs gd → n + ys.length = sizeLine → GK X S ip A R c0 fs J L D → GI X S ip ys st K s → Seg (model X.prog X.w) A R (GY X S) n t0 c0 ((execs b X.env).wrap J L gd lv) fs s
structure FoG (c : Ct) (H : Hp) (σ : Sg) (K : Hp) (Q : List DT → Sg → Prop) (E : TX) (D : GEnds) : Prop where
  nx : ∀ vs ys σ' st' H' K', Gw H σ K H' σ' K' → Wd c.K H' σ' K' → RepA c.K H' vs ys → Q ys σ' → D.nx vs st' K'
  ex : ∀ cls dA x σ' st' H' K', Gw H σ K H' σ' K' → Wd c.K H' σ' K' → XRep c.K H' dA x → E cls x σ' → c.Wx cls dA st' K'
theorem FoG.next {c : Ct} {H H1 K K1 : Hp} {σ σ1 : Sg} {Q : List DT → Sg → Prop} {E : TX} {D : GEnds} (f : FoG c H σ K Q E D) (g : Gw H σ K H1 σ1 K1) : FoG c H1 σ1 K1 Q E D :=
  ⟨fun vs ys σ' st' H' K' g' => f.nx vs ys σ' st' H' K' (g.trans g'), fun cls dA x σ' st' H' K' g' => f.ex cls dA x σ' st' H' K' (g.trans g')⟩
theorem FoG.xc {c : Ct} {H K : Hp} {σ : Sg} {Q : List DT → Sg → Prop} {E : TX} {D : GEnds} {st : L2.St} (f : FoG c H σ K Q E D) : XC c H σ K st E := fun cls dA x σ' H' K' g w xr e => f.ex cls dA x σ' st H' K' g w xr e
/-- the rest of a generator's body; ys is out -/
structure GB (c : Ct) (b : List Stmt) (ρ : EnvT) (σ : Sg) (ys : List DT) (Q : List DT → Sg → Prop) (E : TX) : Prop where
  run : ∀ X, Con c X → X.env.scope.isCoroutine = false ∧ interactive X.env = false → ∀ st H K, Wd c.K H σ K → REnv c.K H ρ st → ∀ vs, RepA c.K H vs ys → ∀ D, FoG c H σ K Q E D → cG X b D vs st K
section
variable {c : Ct} {ρ : EnvT} {σ : Sg} {ys : List DT} {Q : List DT → Sg → Prop} {E : TX} {e iter : Expr} {rest : List Stmt} {pos px p2 p3 yp : Pos} {x : Str} {j : Nat}
end

/-! ### the promise, the rule, the call -/
section
variable {c : Ct} {ρ : EnvT} {σ : Sg} {Q : DT → Sg → Prop} {E : TX} {a : Expr} {es : List Expr} {pos p pos2 p2 : Pos}
end
end Y

/-! Yqi: a dict == an int. -/
namespace PySem.W
open PySem PySem.Calls PyProof.Rows Builtin
open _root_.PySem.AutoSeq1 (wpAny_loadPart')
end PySem.W
namespace Y
open PySem PySem.Spec PySem.Calls PyProof.Rows L2 SX Z
section
variable {c : Ct} {σ : Sg} {x y : DT} {kvs : List (DK × DT)} {i : Int}
end
end Y

/-! Yt2: a < b < c as a test. -/
namespace Y
open PySem PySem.Spec PyProof.Rows L2 L2H SX Z HotX
section
variable {c : Ct} {ρ : EnvT} {σ : Sg} {a b : Expr} {x y z : DT} {pos : Pos}
end
end Y

/-! Yab: abs of an int. -/
namespace Y
open PySem PySem.Spec L2 SX Z
end Y

/-! Ycl: an instance is called (a class with a plain __call__). -/
namespace PySem.W
open PySem PySem.Calls PyProof.Rows Builtin
section
variable {prog : Program} {w : World} {M : Model} {A : Around} {E : Value → Shared → Prop} {s : Shared} {K : Frag} {x C f : Addr} {ox : Obj} {od : Option Obj} {Q : Value → Shared → Prop}
end
end PySem.W
namespace Y
open PySem PySem.Spec PyProof.Rows L2 L2H SX Z
section
variable {c : Ct} {ρ : EnvT} {σ : Sg} {Q : DT → Sg → Prop} {E : TX} {a o : Expr} {es : List Expr} {pos : Pos} {C : Addr} {ps : List Str} {k : Nat} {spec : TSpec}
end
end Y

/-! Ysi: sorted of a list of ints. -/
namespace Y
open PySem PySem.Spec PyProof.Rows L2 SX Z
end Y

/-! Yth: an expression that only reads a dict that changes; constants of a class. -/
namespace Y
open PySem PySem.Spec PyProof.Rows L2 SX Z
def Sca : DT → Prop
  | .non => True
  | .bl _ => True
  | .int _ => True
  | .str _ => True
  | _ => False
theorem Sca.rep {F : PySem.W.Frag} {H H' : Hp} {d : DT} {v : V} (s : Sca d) (r : Rep F H v d) : Rep F H' v d := by
  cases r with
  | non => exact .non
  | bl b => exact .bl b
  | int i => exact .int i
  | str z => exact .str z
  | _ => exact s.elim
section
variable {c : Ct} {ρ : EnvT} {σ : Sg} {e : Expr} {d : DT}
end
end Y

/-! Ytx: great powers; list(d.values()); a number in a tuple; str(n), int(text), split; f-strings, also {n:>3}. -/
namespace YF
open PySem PySem.Builtin PySem.Builtin.Float PyProof.Rows PySem.Calls
section
variable {prog : Program} {w : World} {A : Around} {E : Value → Shared → Prop} {s : Shared}
end
end YF
namespace Y
open PySem PySem.Spec PyProof.Rows L2 SX Z
section
variable {c : Ct} {σ : Sg}
end
/-! ### list(d.values()) -/
section
variable {c : Ct} {ρ : EnvT} {σ : Sg} {o : Expr} {p pos apos mpos : Pos} {x : DT} {kvs : List (DK × DT)}
/-! ### texts of numbers, numbers of texts, split -/
end
/-! ### f-strings -/
section
variable {c : Ct} {ρ : EnvT} {σ : Sg} {e : Expr} {pos : Pos}
inductive TPs (c : Ct) (ρ : EnvT) (σ : Sg) : List Expr → List (List Nat) → Prop
  | nil : TPs c ρ σ [] []
  | cons {e : Expr} {es : List Expr} {l : List Nat} {ls : List (List Nat)} (h : TV c e ρ σ (.str l)) (r : TPs c ρ σ es ls) : TPs c ρ σ (e :: es) (l :: ls)
end
end Y

/-! Yu3: `x, y, z = a, b, c` where one of the names is read by a comprehension. -/
namespace Y
open PySem PySem.Spec PyProof.Rows L2 SX Z
section
variable {c : Ct} {ρ : EnvT} {σ : Sg} {D : EndT} {a b e3 : Expr} {pos : Pos} {x y z : Str}
end
/-! `x, y = 0, 1`: constants, folded -/
section
variable {c : Ct} {ρ : EnvT} {σ : Sg} {D : EndT} {a b : Expr} {pos : Pos} {x y : Str}
end
end Y

/-! Ymx: max(d), min(d) of a dict with texts as keys; `x, *y = a list`. -/
namespace Y
open PySem PySem.Spec PyProof.Rows L2 SX Z
section
variable {c : Ct} [Calm c] {σ : Sg} {x : DT} {kvs : List (DK × DT)} {l : List (List Nat)} {m : List Nat}
end
section
variable {c : Ct} {σ : Sg} {x : DT} {kvs : List (DK × DT)} {l : List (List Nat)} {m : List Nat}
end
/-! ### x, *y = a list -/
section
variable {prog : Program} {w : World} {A : Around} {E : Value → Shared → Prop} {s : Shared}
end
section
variable {X : Cx}
end
section
variable {c : Ct} {ρ : EnvT} {σ : Sg} {D : EndT} {e : Expr} {x y : Str} {p1 p2 p3 pt pos : Pos} {k i j : Nat}
end
end Y

/-! Yle: != of two lists of instances with an own __eq__, pairwise equal. -/
namespace GQ
open PySem PySem.SeqAt
open AutoSeq1 (wpAny_loadPart')
open MeetsSeq MeetsSeq2 MeetsSeq3 SeqRoads2
section
variable {prog : Program} {w : World} {A : Around} {R : Result → Shared → Prop}
end
end GQ
namespace Y
open PySem PySem.Spec PyProof.Rows L2 SX Z
section
variable {c : Ct} {σ : Sg} {C : Addr} {k : Nat} {ps : List Str} {spec : TSpec} {xs ys : List (List (Str × DT))}
end
end Y

/-! Ysn: text <= text, sign not in text; `d[k], y = u, v`. -/
namespace Y
open PySem PySem.Spec PyProof.Rows L2 SX Z
section
variable {c : Ct} {σ : Sg} {a b : List Nat}
end
section
variable {c : Ct} {ρ : EnvT} {σ : Sg} {D : EndT} {a b e : Expr} {pos p1 py pt : Pos} {kt : Nat} {y : Str}
end
end Y

/-! Ycv: a call of a value that is an own function; k in a list of ints; list.count of data. -/
namespace Y
open PySem PySem.Spec PyProof.Rows L2 L2H SX Z
section
variable {c : Ct} {ρ : EnvT} {σ : Sg} {Q : DT → Sg → Prop} {E : TX} {a o : Expr} {es : List Expr} {pos : Pos}
end
section
variable {c : Ct} {σ : Sg} {x : DT} {k : Int} {l : List Int}
end
section
variable {c : Ct} {σ : Sg} {x : DT} {ys : List DT}
end
end Y

/-! Yc2: a list comprehension with two fors, given to a name; [*a, x]. -/
namespace Y
open PySem PySem.Spec PyProof.Rows L2 SX Z
section
variable {J J1 : It} {n : Nat} {G : Hp → Prop} {Yh : Nat → Hp → V → Hp → Prop}
end
section
variable {c : Ct} {ρ : EnvT} {σ : Sg} {tg iter tg1 iter1 elt : Expr} {scope : Scope} {pos p1 : Pos} {own : List (Str × Nat)} {t t1 : TgS} {vs1 : List Nat} {x : Str} {D : EndT}
end
section
variable {c : Ct} {ρ : EnvT} {σ : Sg} {QA : List DT → Sg → Prop} {E : TX} {a : Expr} {es : List Expr} {p : Pos}
end
end Y

/-! Yc3: sorted(d) as a cell, list.reverse, a tuple that holds a cell: its repr, and freezing it. -/
namespace Y
open PySem PySem.Spec PyProof.Rows L2 SX Z
section
variable {c : Ct} {ρ : EnvT} {σ : Sg} {Q : DT → Sg → Prop} {E : TX} {a e : Expr} {p pos : Pos}
end
section
variable {c : Ct} {σ : Sg} {x : DT} {D : Addr} {xs : List DT} {P : DT → Sg → Prop}
end
end Y

/-! Ydl: d[k] op= e, del d[k] of a dict that is a cell. -/
namespace Y
open PySem PySem.Spec PyProof.Rows L2 SX Z
section
variable {c : Ct} {ρ : EnvT} {σ : Sg} {D : EndT} {e a b : Expr} {pos p1 : Pos} {p : Addr} {k : DK} {kvs : List (DK × DT)} {v y z : DT}
end
end Y

/-! Yld: != of two lists of dicts whose values are ints. -/
namespace GQ
open PySem PySem.SeqAt
open AutoSeq1 (wpAny_loadPart')
open MeetsSeq MeetsSeq2 MeetsSeq3 SeqRoads2
section
variable {prog : Program} {w : World} {A : Around} {R : Result → Shared → Prop}
end
end GQ
namespace Y
open PySem PySem.Spec PyProof.Rows L2 SX Z
section
variable {F : PySem.W.Frag} {H : Hp}
end
section
variable {c : Ct} {σ : Sg} {xs ys : List DT} {g : Nat → Bool}
end
end Y

/-! Yph: a, b = e1, e2 with plain local names, while an exception is handled. -/
namespace HotX
open PySem PySem.Spec PyProof.Rows L2 L2H
section
variable {X : Cx} {pos : Pos}
end
end HotX
namespace Y
open PySem PySem.Spec PyProof.Rows L2 L2H HotX SX Z
section
variable {c : Ct} {ρ : EnvT} {σ : Sg} {D : EndT} {a b : Expr} {x y : Str} {px py pt p2 pos : Pos}
end
end Y

/-! Yml: == and != of a value with a list that holds instances. -/
namespace PySem.W
open PySem PySem.Calls PyProof.Rows Builtin
open _root_.PySem.AutoSeq1 (wpAny_loadPart')
end PySem.W
namespace Y
open PySem PySem.Spec PySem.Calls PyProof.Rows L2 SX Z
section
variable {c : Ct} {σ : Sg} {y : DT} {xs ys : List DT}
end
end Y
namespace Y
open PySem PySem.Spec PyProof.Rows L2 SX Z
section
variable {c : Ct} {σ : Sg} {C : Addr} {k : Nat} {ps : List Str} {spec : TSpec} {xs ys : List (List (Str × DT))}
end
end Y
namespace Y
open PySem PySem.Spec PyProof.Rows L2 SX Z
section
variable {c : Ct} {σ : Sg} {i : Int}
end
end Y

/-! Yll: lists of lists that change: their cells together (gm), comprehensions that make them, freezing them, row[i] op= e; *= and //= of great ints. -/
namespace Y
open PySem PySem.Spec PyProof.Rows L2 SX Z
/-! ### great ints -/
section
variable {c : Ct} {σ : Sg} {i j : Int}
end
/-! ### the cells of several lists -/
structure FrP (σ : Sg) (pm : List (Addr × List DT)) : Prop where
  nd : (pm.map (·.1)).Nodup
  fr : ∀ p ∈ pm.map (·.1), σ p = none
theorem gm_addr {pm : List (Addr × List DT)} {i : Nat} {p : Addr} {xs ys : List DT} (h : pm[i]? = some (p, xs)) : (pm.set i (p, ys)).map (·.1) = pm.map (·.1) := by
  rw [List.map_set]
  apply List.ext_getElem?
  intro j
  rw [List.getElem?_set]
  split
  · next e =>
    subst e
    split
    · rw [List.getElem?_map, h]; rfl
    · next e2 => rw [List.getElem?_eq_none (by omega)]
  · rfl
theorem FrP.set {σ : Sg} {pm : List (Addr × List DT)} {i : Nat} {p : Addr} {xs ys : List DT} (h : FrP σ pm) (hi : pm[i]? = some (p, xs)) : FrP σ (pm.set i (p, ys)) := ⟨by rw [gm_addr hi]; exact h.nd, by rw [gm_addr hi]; exact h.fr⟩
section
variable {c : Ct} {ρ : EnvT} {σ : Sg} {D : EndT} {r : List Stmt} {e : Expr} {Q : DT → Sg → Prop} {E : TX}
end
section
variable {c : Ct} {ρ : EnvT} {σ : Sg} {D : EndT} {r : List Stmt} {tg iter elt : Expr} {scope : Scope} {pos : Pos} {own : List (Str × Nat)} {t : TgS} {x : Str} {p1 p2 : Pos}
end
section
variable {c : Ct} {ρ : EnvT} {σ : Sg} {Q : DT → Sg → Prop} {E : TX} {a b : Expr} {pos : Pos}
end
section
variable {c : Ct} {ρ : EnvT} {σ : Sg} {Q : DT → Sg → Prop} {E : TX} {tg iter elt : Expr} {scope : Scope} {pos : Pos} {own : List (Str × Nat)} {t : TgS}
end
section
variable {c : Ct} {ρ : EnvT} {σ : Sg} {E : TX} {tg e : Expr} {QA : List DT → Sg → Prop} {pos : Pos}
end
section
variable {c : Ct} {ρ : EnvT} {σ : Sg} {D' : EndT} {r : List Stmt} {tg iter kx vx : Expr} {scope : Scope} {pos : Pos} {own : List (Str × Nat)} {t : TgS} {x : Str} {p1 p2 : Pos}
end
/-! ### row[i] op= e -/
section
variable {c : Ct} {ρ : EnvT} {σ : Sg} {D : EndT} {e a b : Expr} {pos p1 : Pos} {p : Addr} {k : Nat} {xs : List DT} {u v z : Int}
end
end Y

/-! Ysd: dicts with whole numbers as keys: sorted(d), their entries. -/
namespace Y
open PySem PySem.Spec PyProof.Rows L2 SX Z
/-! entries -/
section
variable {c : Ct} {ρ : EnvT} {σ : Sg} {D' : EndT} {r : List Stmt} {tg iter kx vx ifx : Expr} {scope : Scope} {pos : Pos} {own : List (Str × Nat)} {t : TgS} {x : Str} {p1 p2 : Pos}
end
end Y

/-! Yxi: max(d) of a dict with ints as keys; min of a list of ints; == and != of such dicts. -/
namespace Y
open PySem PySem.Spec PyProof.Rows L2 SX Z
section
variable {c : Ct} [Calm c] {σ : Sg} {x : DT} {kvs : List (DK × DT)} {l : List Int} {m : Int}
end
/-! min of a list of ints -/
section
variable {c : Ct} [Calm c] {σ : Sg} {x : DT} {k : Int} {l : List Int}
end
/-! == and != of dicts with int keys and values -/
end Y

/-! Ycu: a[:i] of a list, as a cell. -/
namespace Y
open PySem PySem.Spec PyProof.Rows L2 SX Z
section
variable {c : Ct} {ρ : EnvT} {σ : Sg} {Q : DT → Sg → Prop} {E : TX} {a u : Expr} {p2 pos : Pos} {x : DT} {xs : List DT} {i : Int}
end
end Y

/-! Yix: text.index(sign). -/
namespace Y
open PySem PySem.Spec PyProof.Rows L2 SX Z
end Y

open PySem L2 SX Z Y
/-! ### short words over trees -/
local macro_rules | `(tactic| walk_at "z") => `(tactic| first | assumption | omega | decide | decide +kernel)
local macro_rules | `(tactic| walk_at "as") => `(tactic| with_reducible assumption)
local macro_rules | `(tactic| walk_at "bt") => `(tactic| with_reducible first | exact bt_len | exact bt_isinstance | exact bt_str | exact bt_int | exact bt_bool | exact bt_list | exact bt_min | exact bt_max | exact bt_abs | exact bt_all | exact bt_sum | exact bt_sorted | exact bt_repr | exact bt_tuple | exact bt_dict | exact bt_set)
local macro_rules | `(tactic| walk_at "bd") => `(tactic| first | assumption | exact cut_le (by walk_at "bd") | exact app_le (by walk_at "bd") (by walk_at "bd") | exact Nat.le_refl _)
local macro_rules | `(tactic| walk_at "len") => `(tactic| first | assumption | exact Nat.le_of_ble_eq_true rfl | exact Nat.le_trans (Nat.add_le_add (by walk_at "bd") (by walk_at "bd")) (by omega) | exact Nat.le_trans (by walk_at "bd") (by omega) | omega | (simp; done) | (simp; omega))
local macro_rules | `(tactic| walk_at "mul") => `(tactic| first | assumption | (unfold CMulW; decide +kernel))
local macro_rules | `(tactic| walk_at "div") => `(tactic| first | assumption | exact ⟨by decide, by decide⟩ | exact ⟨by decide +kernel, by decide +kernel⟩)
local macro_rules | `(tactic| walk_at "pow") => `(tactic| first | assumption | exact ⟨by decide, by decide, by decide⟩)
local macro_rules | `(tactic| walk_at "cell") => `(tactic| first | assumption | exact su_same)
local macro_rules | `(tactic| walk_at "lx") => `(tactic| first | with_reducible exact lsX_l | exact lsX_c (by walk_at "cell"))
local macro_rules | `(tactic| walk_at "lt") => `(tactic| first | with_reducible exact lsT_l | with_reducible exact lsT_s | exact lsT_c (by walk_at "cell") | assumption)
local macro_rules | `(tactic| walk_at "at") => `(tactic| first | assumption | rfl | exact Z.at_nat (j := 0) rfl rfl)
local macro_rules | `(tactic| walk_at "o2") => `(tactic| first
  | with_reducible exact po_addI | with_reducible exact po_subI | with_reducible exact po_ltI | with_reducible exact po_leI | with_reducible exact po_gtI | with_reducible exact po_geI | with_reducible exact po_eqI | with_reducible exact po_neI
  | with_reducible exact po_eqS | with_reducible exact po_neS | with_reducible exact po_isN | with_reducible exact po_notN | with_reducible exact po_isB | with_reducible exact po_notB | with_reducible exact po_iaddI | with_reducible exact po_isubI
  | ((with_reducible show PO2 _ (compareOp .In) (.str _) (.str _) _ _); exact po_inS)
  | ((with_reducible show PO2 _ (binaryOp .Mult) (.int _) _ _ _); exact po_mulI (by walk_at "mul")) | ((with_reducible show PO2 _ (binaryOp .Mod) (.int _) _ _ _); exact po_modI (by walk_at "z")) | ((with_reducible show PO2 _ (binaryOp .FloorDiv) _ _ _ _); exact po_divI (by walk_at "div")) | ((with_reducible show PO2 _ (binaryOp .Pow) _ _ _ _); exact po_powI (by walk_at "pow"))
  | ((with_reducible show PO2 _ (binaryOp .Add) (.str _) _ _ _); exact po_addS (by walk_at "len")) | ((with_reducible show PO2 _ (binaryOp .Mult) (.str _) _ _ _); exact po_mulS (by walk_at "z") (by walk_at "z") (by walk_at "len"))
  | ((with_reducible show PO2 _ (binaryOp .Add) _ _ _ _); exact po_cat (by walk_at "lx") (by walk_at "lx") (by walk_at "len")) | ((with_reducible show PO2 _ (binaryOp .Mult) _ _ _ _); exact po_rep (by walk_at "lx") (by walk_at "z") (by walk_at "z") (by walk_at "len"))
  | ((with_reducible show PO2 _ (compareOp .Lt) (.str _) _ _ _); exact po_ltS) | ((with_reducible show PO2 _ (compareOp .Gt) (.str _) _ _ _); exact po_gtS))
local macro_rules | `(tactic| walk_at "of") => `(tactic| first
  | ((with_reducible show POF _ (.builtin "len") [.str _] _ _); exact pf_lenS (by walk_at "len")) | ((with_reducible show POF _ (.builtin "len") [.tup _] _ _); exact pf_lenT) | ((with_reducible show POF _ (.builtin "len") _ _ _); exact pf_lenL (by walk_at "lt")) | with_reducible exact pf_min2 | with_reducible exact pf_max2
  | ((with_reducible show POF _ (.builtin "all") _ _ _); exact pf_all (by walk_at "lt")) | ((with_reducible show POF _ (.builtin "sum") _ _ _); exact pf_sum (by walk_at "lt")) | ((with_reducible show POF _ (.builtin "isinstance") _ _ _); exact pf_isi (by rfl) (by decide +kernel)))
local macro_rules | `(tactic| walk_at "oty") => `(tactic| first | with_reducible exact pf_intB | ((with_reducible show POF _ (.type "list") [.tup _] _ _); exact pf_listT) | ((with_reducible show POF _ (.type "list") _ _ _); exact pf_listL (by walk_at "lt")))
local macro_rules | `(tactic| walk_at "va") => `(tactic| first | with_reducible exact tva_nil | exact tva_cons (by walk_at "v") (by walk_at "va"))
local macro_rules | `(tactic| walk_at "vo") => `(tactic| first | with_reducible exact to_none | exact to_some (by walk_at "v"))
local macro_rules | `(tactic| walk_at "oi") => `(tactic| first | ((with_reducible show POI _ (.str _) _ _ _); exact pi_str (by walk_at "len") (by walk_at "at")) | ((with_reducible show POI _ (.tup _) _ _ _); exact pi_tup (by walk_at "at")) | exact pi_lst (by walk_at "lt") (by walk_at "at"))
local macro_rules | `(tactic| walk_at "ol") => `(tactic| first | ((with_reducible show POL _ (.str _) _ _ _ _); exact pl_str (by walk_at "len")) | ((with_reducible show POL _ (.tup _) _ _ _ _); exact pl_tup (by walk_at "z")) | exact pl_lst (by walk_at "lt"))
/-- a call of a built-in -/
local macro_rules | `(tactic| walk_at "vc") => `(tactic| first
  | exact tv_callB (by rfl) (by walk_at "as") (by walk_at "bt") (by walk_at "va") (by walk_at "of")
  | exact tv_callTy (by rfl) (by walk_at "as") (by walk_at "bt") (by walk_at "va") (by walk_at "oty"))
local macro_rules | `(tactic| walk_at "v") => `(tactic| first
  | ((with_reducible show TV _ (.Name _ _) _ _ _); first
    | exact tv_nm (by rfl) (by rfl)
    | exact tv_gl (by rfl) (by walk_at "as")
    | exact tv_ty (by rfl) (by walk_at "as") (by walk_at "bt"))
  | with_reducible exact tv_int
  | with_reducible exact tv_str
  | with_reducible exact tv_bl
  | with_reducible exact tv_non
  | ((with_reducible show TV _ (.BinOp _ _ _ _) _ _ _); exact tv_bin (by walk_at "v") (by walk_at "v") (by walk_at "o2"))
  | ((with_reducible show TV _ (.Compare _ [_] [_] _) _ _ _); exact tv_cmp (by walk_at "v") (by walk_at "v") (by walk_at "o2") (by rfl))
  | ((with_reducible show TV _ (.Subscript _ (.Slice _ _ _ _) _) _ _ _); exact tv_slice (by walk_at "v") (by walk_at "vo") (by walk_at "vo") (by walk_at "ol"))
  | ((with_reducible show TV _ (.Subscript _ _ _) _ _ _); exact tv_sub (by walk_at "v") (by walk_at "v") (by walk_at "oi"))
  | ((with_reducible show TV _ (.Call _ _ _ _) _ _ _); walk_at "vc")
  | ((with_reducible show TV _ (.BoolOp _ [_] _) _ _ _); exact tv_one (by walk_at "v"))
  | ((with_reducible show TV _ (.BoolOp .And _ _) _ _ _); exact tv_and (by walk_at "v") (fun _ => by walk_at "v"))
  | ((with_reducible show TV _ (.BoolOp .Or _ _) _ _ _); exact tv_or (by walk_at "v") (fun _ => by walk_at "v"))
  | ((with_reducible show TV _ (.UnaryOp .Not _ _) _ _ _); exact tv_not (by walk_at "v"))
  | ((with_reducible show TV _ (.List _ _) _ _ _); exact tv_lst (by walk_at "va"))
  | ((with_reducible show TV _ (.Tuple _ _ _) _ _ _); exact tv_tup (by walk_at "va"))
  | ((with_reducible show TV _ (.IfExp _ _ _ _) _ _ _); exact tv_if (by walk_at "t") (fun _ => by walk_at "v") (fun _ => by walk_at "v")))
/-- tests -/
local macro_rules | `(tactic| walk_at "t") => `(tactic| first
  | ((with_reducible show TB _ (.Compare _ [_] [_] _) _ _ _); exact tb_cmp (by walk_at "v") (by walk_at "v") (by walk_at "o2") (by rfl))
  | ((with_reducible show TB _ (.UnaryOp .Not _ _) _ _ _); exact tb_not (by walk_at "t"))
  | ((with_reducible show TB _ (.BoolOp _ _ _) _ _ _); exact tb_W (by walk_at "tw"))
  | exact tb_val (by walk_at "v"))
local macro_rules | `(tactic| walk_at "tw") => `(tactic| first
  | ((with_reducible show TBW _ (.BoolOp .And [_] _) _ _ _); exact tbw_and1 (by walk_at "t"))
  | ((with_reducible show TBW _ (.BoolOp .Or [_] _) _ _ _); exact tbw_or1 (by walk_at "t"))
  | ((with_reducible show TBW _ (.BoolOp .And _ _) _ _ _); exact tbw_and (by walk_at "t") (fun _ => by walk_at "tw"))
  | ((with_reducible show TBW _ (.BoolOp .Or _ _) _ _ _); exact tbw_or (by walk_at "t") (fun _ => by walk_at "tw")))
/-- a name that is stored, a local target, a comprehension's block -/
local macro_rules | `(tactic| walk_at "sto") => `(tactic| exact ⟨by rfl, by first | exact .inl (by rfl) | exact .inr (by rfl), .inl rfl⟩)
local macro_rules | `(tactic| walk_at "tgt") => `(tactic| exact ⟨_, _, rfl, by rfl, by first | exact .inl (by rfl) | exact .inr (by rfl), by first | exact .inl rfl | exact .inr (by rfl)⟩)
local macro_rules | `(tactic| walk_at "tgs") => `(tactic| exact ⟨_, _, _, rfl, by first | exact ⟨by walk_at "tgt", by walk_at "tgt", trivial⟩ | exact ⟨by walk_at "tgt", by walk_at "tgt", by walk_at "tgt", trivial⟩ | exact ⟨by walk_at "tgt", by walk_at "tgt", by walk_at "tgt", by walk_at "tgt", trivial⟩⟩)
local macro_rules | `(tactic| walk_at "blk") => `(tactic| (dsimp only; decide +kernel))
local macro_rules | `(tactic| walk_at "k") => `(tactic| exact Nat.le_of_ble_eq_true rfl)

/-! ### the texts -/
namespace Y
open PySem PySem.Spec L2 SX Z
def top (i : Nat) : Stmt := PySem.Challenge.pw_windowcounts_k13_moves_judged.main.body.getD i (.Pass ⟨0, 0, 0, 0⟩)
abbrev s_is_integer : Stmt := top 8
theorem sc_is_integer : FnScope ["value", "low", "high"] ["value", "low", "high"] (defScope s_is_integer) := ⟨rfl, rfl, rfl, by decide +kernel, rfl, by decide +kernel, by decide +kernel⟩
abbrev s_is_letters : Stmt := top 9
theorem sc_is_letters : FnScope ["value", "low", "high", "sign"] ["value", "low", "high"] (defScope s_is_letters) := ⟨rfl, rfl, rfl, by decide +kernel, rfl, by decide +kernel, by decide +kernel⟩
abbrev s_is_row : Stmt := top 10
theorem sc_is_row : FnScope ["value"] ["value"] (defScope s_is_row) := ⟨rfl, rfl, rfl, by decide +kernel, rfl, by decide +kernel, by decide +kernel⟩
abbrev s_check_row : Stmt := top 11
theorem sc_check_row : FnScope ["value"] ["value"] (defScope s_check_row) := ⟨rfl, rfl, rfl, by decide +kernel, rfl, by decide +kernel, by decide +kernel⟩
abbrev s_check_width : Stmt := top 12
theorem sc_check_width : FnScope ["row", "value"] ["row", "value"] (defScope s_check_width) := ⟨rfl, rfl, rfl, by decide +kernel, rfl, by decide +kernel, by decide +kernel⟩
abbrev s_piece_in : Stmt := top 13
theorem sc_piece_in : FnScope ["row", "width", "index"] ["row", "width", "index"] (defScope s_piece_in) := ⟨rfl, rfl, rfl, by decide +kernel, rfl, by decide +kernel, by decide +kernel⟩
abbrev s_is_form : Stmt := top 18
theorem sc_is_form : FnScope ["value", "name", "numbers", "number"] ["value"] (defScope s_is_form) := ⟨rfl, rfl, rfl, by decide +kernel, rfl, by decide +kernel, by decide +kernel⟩
abbrev s_last_index : Stmt := top 19
theorem sc_last_index : FnScope ["row", "width"] ["row", "width"] (defScope s_last_index) := ⟨rfl, rfl, rfl, by decide +kernel, rfl, by decide +kernel, by decide +kernel⟩
abbrev s_is_move_of : Stmt := top 20
theorem sc_is_move_of : FnScope ["row", "width", "value", "last", "pieces", "index"] ["row", "width", "value"] (defScope s_is_move_of) := ⟨rfl, rfl, rfl, by decide +kernel, rfl, by decide +kernel, by decide +kernel⟩
abbrev s_is_move : Stmt := top 21
theorem sc_is_move : FnScope ["row", "width", "value"] ["row", "width", "value"] (defScope s_is_move) := ⟨rfl, rfl, rfl, by decide +kernel, rfl, by decide +kernel, by decide +kernel⟩
abbrev s_law_bag : Stmt := top 23
theorem sc_law_bag : FnScope ["_law_script", "_law_total", "_law_cell"] ["_law_script"] (defScope s_law_bag) := ⟨rfl, rfl, rfl, by decide +kernel, rfl, by decide +kernel, by decide +kernel⟩
abbrev s_law_stir : Stmt := top 24
theorem sc_law_stir : FnScope ["_law_number", "_law_place", "_law_one", "_law_two"] ["_law_number", "_law_place"] (defScope s_law_stir) := ⟨rfl, rfl, rfl, by decide +kernel, rfl, by decide +kernel, by decide +kernel⟩
abbrev s_law_draw : Stmt := top 25
theorem sc_law_draw : FnScope ["_law_bag_here", "_law_bound", "_law_cell", "_law_found"] ["_law_bag_here", "_law_bound"] (defScope s_law_draw) := ⟨rfl, rfl, rfl, by decide +kernel, rfl, by decide +kernel, by decide +kernel⟩
abbrev s_law_letters : Stmt := top 27
theorem sc_law_letters : FnScope ["_law_bag_here", "_law_most", "_law_way", "_law_few", "_law_count", "_law_alphabet", "_law_found", "_law_some", "_law_half", "_law_step"] ["_law_bag_here", "_law_most"] (defScope s_law_letters) := ⟨rfl, rfl, rfl, by decide +kernel, rfl, by decide +kernel, by decide +kernel⟩
abbrev s_law_windows : Stmt := top 28
theorem sc_law_windows : FnScope ["_law_letters_here", "_law_wide", "_law_at"] ["_law_letters_here", "_law_wide"] (defScope s_law_windows) := ⟨rfl, rfl, rfl, by decide +kernel, rfl, by decide +kernel, by decide +kernel⟩
abbrev s_law_chain : Stmt := top 29
theorem sc_law_chain : FnScope ["_law_some", "_law_wide", "_law_one", "_law_other", "_law_piece"] ["_law_some", "_law_wide"] (defScope s_law_chain) := ⟨rfl, rfl, rfl, by decide +kernel, rfl, by decide +kernel, by decide +kernel⟩
abbrev s_law_after : Stmt := top 30
theorem sc_law_after : FnScope ["_law_letters_here", "_law_wide", "_law_move", "_law_some", "_law_size", "_law_first", "_law_a", "_law_b", "_law_c", "_law_d", "_law_heads", "_law_later", "_law_at"] ["_law_letters_here", "_law_wide", "_law_move"] (defScope s_law_after) := ⟨rfl, rfl, rfl, by decide +kernel, rfl, by decide +kernel, by decide +kernel⟩
abbrev s_law_swap : Stmt := top 31
theorem sc_law_swap : FnScope ["_law_bag_here", "_law_letters_here", "_law_wide", "_law_size", "_law_heads", "_law_step", "_law_a", "_law_same", "_law_c", "_law_later", "_law_some", "_law_b", "_law_ends", "_law_at"] ["_law_bag_here", "_law_letters_here", "_law_wide"] (defScope s_law_swap) := ⟨rfl, rfl, rfl, by decide +kernel, rfl, by decide +kernel, by decide +kernel⟩
abbrev s_law_is_move : Stmt := top 32
theorem sc_law_is_move : FnScope ["_law_letters_here", "_law_wide", "_law_value", "_law_numbers", "_law_one"] ["_law_letters_here", "_law_wide", "_law_value"] (defScope s_law_is_move) := ⟨rfl, rfl, rfl, by decide +kernel, rfl, by decide +kernel, by decide +kernel⟩
abbrev s_law_all : Stmt := top 33
theorem sc_law_all : FnScope ["_law_size", "_law_found", "_law_a", "_law_b", "_law_c", "_law_r", "_law_d"] ["_law_size"] (defScope s_law_all) := ⟨rfl, rfl, rfl, by decide +kernel, rfl, by decide +kernel, by decide +kernel⟩
abbrev s_law_odd : Stmt := top 34
theorem sc_law_odd : FnScope ["_law_bag_here", "_law_size", "_law_move", "_law_a", "_law_b", "_law_c", "_law_d", "_law_found", "_law_some"] ["_law_bag_here", "_law_size", "_law_move"] (defScope s_law_odd) := ⟨rfl, rfl, rfl, by decide +kernel, rfl, by decide +kernel, by decide +kernel⟩
abbrev s_law_right : Stmt := top 35
theorem sc_law_right : FnScope ["_law_letters_here", "_law_wide", "_law_values", "_law_kept", "_law_value"] ["_law_letters_here", "_law_wide", "_law_values"] (defScope s_law_right) := ⟨rfl, rfl, rfl, by decide +kernel, rfl, by decide +kernel, by decide +kernel⟩
abbrev s_law : Stmt := top 36
theorem sc_law : FnScope ["_law_script", "_law_bag_here", "_law_turn", "_law_letters_here", "_law_wide", "_law_step", "_law_move"] ["_law_script"] (defScope s_law) := ⟨rfl, rfl, rfl, by decide +kernel, rfl, by decide +kernel, by decide +kernel⟩
end Y

/-! ### rows -/
namespace Y
open PySem PySem.Spec L2 SX Z
theorem gl_int {F : PySem.W.Frag} {mg : Str → Option Value} {x : Str} {i : Int} {t : Tok} (h : mg x = some (.int i t)) : GlT F mg x (.int i) := ⟨_, .int i, h, ⟨t, rfl⟩, fun _ => .int i⟩
theorem gl_str {F : PySem.W.Frag} {mg : Str → Option Value} {x : Str} {s : Str} {t : Tok} (h : mg x = some (.str s t)) : GlT F mg x (.str (sOf s)) := ⟨_, .str s, h, ⟨t, rfl⟩, fun H => by have := Rep.str (F := F) (H := H) (sOf s); rwa [S_sOf] at this⟩
theorem sOf_LET : sOf "abcdefghijklmnopqrstuvwxyz" = LET := by
  unfold sOf
  rw [LET_str]
/-- is a value a text of lo to hi letters -/
def isLettersV (x : DT) (lo hi : Int) : Bool := match x with
  | .str s => decide (lo ≤ s.length) && decide ((s.length : Int) ≤ hi) && s.all isLet
  | _ => false
def isRowV (x : DT) : Bool := isLettersV x 1 200
def rowOk (r : List Nat) : Prop := 1 ≤ r.length ∧ r.length ≤ 200 ∧ r.all isLet = true
theorem isRowV_ok {r : List Nat} (h : rowOk r) : isRowV (.str r) = true := by
  obtain ⟨h1, h2, h3⟩ := h
  unfold isRowV isLettersV
  simp only [h3, Bool.and_true, Bool.and_eq_true, decide_eq_true_eq]
  omega
def spLetters : TSpec := fun ds σ Q E => ∃ x lo hi, ds = [x, .int lo, .int hi] ∧ (tyT σ x).isSome = true ∧ (∀ s, x = .str s → s.length ≤ 1000000) ∧ Q (.bl (isLettersV x lo hi)) σ
def spRow : TSpec := fun ds σ Q E => ∃ x, ds = [x] ∧ (tyT σ x).isSome = true ∧ (∀ s, x = .str s → s.length ≤ 1000000) ∧ Q (.bl (isRowV x)) σ
section
variable {P : Program} {w : World} {F : PySem.W.Frag} {mg : Str → Option Value} {base : Heap}
theorem ok_is_letters (Fn : DfN F mg "is_letters" ["value", "low", "high"] s_is_letters) (gL : GlT F mg "LETTERS" (.str (sOf "abcdefghijklmnopqrstuvwxyz"))) (b1 : mg "isinstance" = none) (b2 : mg "len" = none) (b3 : mg "all" = none) (b4 : mg "str" = none) :
    Dt P w F mg base "is_letters" ["value", "low", "high"] 1 spLetters := by
  refine dt_ok Fn sc_is_letters (fun ds σ Q E h => ?_) (fun ds σ Q E Wx h => ?_)
  · obtain ⟨x, lo, hi, rfl, _⟩ := h
    rfl
  · obtain ⟨x, lo, hi, rfl, ht, hz, q⟩ := h
    refine tk_ret ?_ q
    cases x with
    | str s =>
      have hl := hz s rfl
      refine TV.castB (tv_and (r := true) (by walk_at "v") (fun _ => tv_and (tv_chain (by walk_at "v") (by walk_at "v") (fun _ => by walk_at "v") (by walk_at "o2") (fun _ => by walk_at "o2")) (fun _ => tv_one (tv_callB (by rfl) (by walk_at "as") (by walk_at "bt") (tva_cons (TV.castL (j := (s.map isLet).map DT.bl) (tv_lcM (own := [("sign", 3)]) (t := .nm 3) (by walk_at "tgt") (by walk_at "blk") (by decide) (tvi_str (by walk_at "v")) (by walk_at "len") (fun _ _ => rfl) (f := fun k => .bl (isLet k)) (fun a _ => ?_)) (by rw [List.map_map]; rfl)) tva_nil) (pf_all lsT_l))))) ?_
      · refine TV.castB (by walk_at "v") ?_
        rw [sOf_LET, mem_LET]
      · unfold isLettersV
        simp [List.all_map, Bool.and_assoc]
    | non => exact TV.castB (tv_and (r := false) (s := true) (by walk_at "v") (fun z => nomatch z)) rfl
    | bl b => exact TV.castB (tv_and (r := false) (s := true) (by walk_at "v") (fun z => nomatch z)) rfl
    | int i => exact TV.castB (tv_and (r := false) (s := true) (by walk_at "v") (fun z => nomatch z)) rfl
    | lst xs => exact TV.castB (tv_and (r := false) (s := true) (by walk_at "v") (fun z => nomatch z)) rfl
    | tup xs => exact TV.castB (tv_and (r := false) (s := true) (by walk_at "v") (fun z => nomatch z)) rfl
    | dct xs => exact TV.castB (tv_and (r := false) (s := true) (by walk_at "v") (fun z => nomatch z)) rfl
    | ref p =>
      have ht : (tyT σ (.ref p)).isSome = true := ht
      unfold tyT at ht
      cases e : σ p with
      | none => simp [e] at ht
      | some c =>
        cases c with
        | lst xs => exact TV.castB (tv_and (r := false) (s := true) (tv_callB (by rfl) (by walk_at "as") (by walk_at "bt") (by walk_at "va") (pf_isi (t := "list") (by simp [tyT, e]) (by decide +kernel))) (fun z => nomatch z)) rfl
        | dct xs => exact TV.castB (tv_and (r := false) (s := true) (tv_callB (by rfl) (by walk_at "as") (by walk_at "bt") (by walk_at "va") (pf_isi (t := "dict") (by simp [tyT, e]) (by decide +kernel))) (fun z => nomatch z)) rfl
        | obj C xs => simp [e] at ht
    | seq xs => cases ht
    | obj C xs => cases ht
    | ty n => cases ht
    | exc C xs => cases ht
    | hot a d xs => cases ht
theorem v_is_letters {c : Ct} {ρ : EnvT} {σ : Sg} {x : DT} {lo hi : Int} {a : Expr} {es : List Expr} {pos p : Pos} (L : DtQ c.hp c.P c.w c.K c.mg c.base "is_letters" ["value", "low", "high"] 1 spLetters) (hk : 1 ≤ c.k) (hg : GlS c "is_letters") (ha : TVA c (a :: es) ρ σ [x, .int lo, .int hi]) (ht : (tyT σ x).isSome = true) (hz : ∀ s, x = .str s → s.length ≤ 1000000)
    (he : ∀ env, starEach (a :: es) env = (false, eval a env) :: starEach es env := by intro _; rfl) (hpl : ∀ pos env, (backTo pos (starEach es env)).any (·.1) = false := by intro _ _; rfl) : TV c (.Call (.Name "is_letters" p) (a :: es) [] pos) ρ σ (.bl (isLettersV x lo hi)) :=
  tv_own L hk hg ha (fun q => ⟨_, _, _, rfl, ht, hz, q⟩) (by decide) he hpl
theorem ok_is_row (L : Dt P w F mg base "is_letters" ["value", "low", "high"] 1 spLetters) (Fn : DfN F mg "is_row" ["value"] s_is_row) (g : GlT F mg "MOST_LETTERS" (.int 200)) : Dt P w F mg base "is_row" ["value"] 2 spRow := by
  refine dt_ok Fn sc_is_row (fun ds σ Q E h => ?_) (fun ds σ Q E Wx h => ?_)
  · obtain ⟨x, rfl, _⟩ := h
    rfl
  · obtain ⟨x, rfl, ht, hz, q⟩ := h
    exact tk_ret (v_is_letters L (by walk_at "k") (by rfl) (by walk_at "va") ht hz) q
theorem v_is_row {c : Ct} {ρ : EnvT} {σ : Sg} {x : DT} {a : Expr} {es : List Expr} {pos p : Pos} (L : DtQ c.hp c.P c.w c.K c.mg c.base "is_row" ["value"] 2 spRow) (hk : 2 ≤ c.k) (hg : GlS c "is_row") (ha : TVA c (a :: es) ρ σ [x]) (ht : (tyT σ x).isSome = true) (hz : ∀ s, x = .str s → s.length ≤ 1000000)
    (he : ∀ env, starEach (a :: es) env = (false, eval a env) :: starEach es env := by intro _; rfl) (hpl : ∀ pos env, (backTo pos (starEach es env)).any (·.1) = false := by intro _ _; rfl) : TV c (.Call (.Name "is_row" p) (a :: es) [] pos) ρ σ (.bl (isRowV x)) :=
  tv_own L hk hg ha (fun q => ⟨_, rfl, ht, hz, q⟩) (by decide) he hpl
end
end Y

/-! ### the bag of draws (family B) -/
namespace Y
open PySem PySem.Spec L2 SX Z
def bagOk (N : Nat) (xs : List DT) : Prop := ∃ (ns : List Int) (i : Nat) (left cnt tot : Int), xs = [.lst (ns.map DT.int), .int (i : Int), .int left, .int cnt, .int tot] ∧ i ≤ ns.length ∧ ns.length ≤ 1000 ∧ 0 ≤ cnt ∧ cnt ≤ N ∧ 0 ≤ tot ∧ tot < 2 ^ 61
theorem bag_le {N M : Nat} {xs : List DT} (h : bagOk N xs) (l : N ≤ M) : bagOk M xs := by
  obtain ⟨ns, i, left, cnt, tot, h1, h2, h3, h4, h5, h6⟩ := h
  exact ⟨ns, i, left, cnt, tot, h1, h2, h3, h4, by omega, h6⟩
def spBag : TSpec := fun ds σ Q E => ∃ ns : List Int, ds = [.seq (ns.map DT.int)] ∧ ns.length ≤ 63 ∧ ∀ p xs, σ p = none → bagOk 0 xs → Q (.ref p) (su σ p (.lst xs))
def spStir : TSpec := fun ds σ Q E => ∃ a b : Int, ds = [.int a, .int b] ∧ 0 ≤ a ∧ a < 2 ^ 61 ∧ 0 ≤ b ∧ b < 2 ^ 40 ∧ ∀ z : Int, Q (.int z) σ
def spDrawB : TSpec := fun ds σ Q E => ∃ p m N xs, ds = [.ref p, .int m] ∧ σ p = some (.lst xs) ∧ bagOk N xs ∧ N < 2 ^ 38 ∧ 1 ≤ m ∧ m < 2 ^ 30 ∧ ∀ d xs', 0 ≤ d → d < m → bagOk (N + 1) xs' → Q (.int d) (su σ p (.lst xs'))
section
variable {P : Program} {w : World} {F : PySem.W.Frag} {mg : Str → Option Value} {base : Heap}
theorem ok_bag (b1 : mg "list" = none) (Fn : DfN F mg "_law_bag" ["_law_script"] s_law_bag) : Dt P w F mg base "_law_bag" ["_law_script"] 1 spBag := by
  refine dt_ok Fn sc_law_bag (fun ds σ Q E h => ?_) (fun ds σ Q E Wx h => ?_)
  · obtain ⟨ns, rfl, _⟩ := h
    rfl
  · obtain ⟨ns, rfl, hl, q⟩ := h
    refine tk_setV (i := 1) (by walk_at "sto") (by walk_at "v" : TV _ _ _ _ (.int 1)) ?_
    refine tk_cons (ts_for (t := .nm 2) (by walk_at "tgt") (ti_seq (te_v (by walk_at "v" : TV _ _ _ _ (.seq (ns.map DT.int))) ⟨_, rfl, ?_⟩)))
    refine ⟨fun i ρ1 σ2 => σ2 = σ ∧ ∃ (s : Int) (o : Option DT), 0 ≤ s ∧ s < 2 ^ 61 ∧ ρ1 = [some (.seq (ns.map DT.int)), some (.int s), o], ⟨rfl, 1, none, by decide, by decide, rfl⟩, ?_, ?_⟩
    · rintro i d ρ1 σ2 hd ⟨rfl, s, o, s0, s1, rfl⟩
      rw [List.getElem?_map] at hd
      obtain ⟨z, hz, rfl⟩ := Option.map_eq_some_iff.mp hd
      refine ⟨_, rfl, ?_⟩
      have m1 : CMulW s 1000003 := mulW (m := 61) (k := 20) (by omega) (by decide) (by decide)
      exact tk_setV (i := 1) (by walk_at "sto") (by walk_at "v") (tk_nil ⟨rfl, _, some (.int z), Int.emod_nonneg _ (by decide), Int.lt_of_lt_of_le (Int.emod_lt_of_pos _ (by decide)) (by decide), rfl⟩)
    · rintro ρ1 σ2 ⟨rfl, s, o, s0, s1, rfl⟩
      refine tk_cons (ts_ret (te_lstC (ta_v (tv_callTy (by rfl) (by walk_at "as") (by walk_at "bt") (tva_cons (by walk_at "v" : TV _ _ _ _ (.seq (ns.map DT.int))) tva_nil) (pf_listL lsT_s)) (ta_v (by walk_at "v" : TV _ _ _ _ (.int 0)) (ta_v (by walk_at "v" : TV _ _ _ _ (.int 0)) (ta_v (by walk_at "v" : TV _ _ _ _ (.int 0)) (ta_v (by walk_at "v" : TV _ _ _ _ (.int s)) (ta_nil ⟨by exact Nat.le_of_ble_eq_true rfl, fun p hp => q p _ hp ?_⟩))))))))
      exact ⟨ns, 0, 0, 0, s, rfl, Nat.zero_le _, by omega, by omega, by omega, s0, s1⟩
theorem ok_stir (Fn : DfN F mg "_law_stir" ["_law_number", "_law_place"] s_law_stir) : Dt P w F mg base "_law_stir" ["_law_number", "_law_place"] 1 spStir := by
  refine dt_ok Fn sc_law_stir (fun ds σ Q E h => ?_) (fun ds σ Q E Wx h => ?_)
  · obtain ⟨a, b, rfl, _⟩ := h
    rfl
  · obtain ⟨a, b, rfl, a0, a1, b0, b1, q⟩ := h
    have m1 : CMulW a 998244353 := mulW (m := 61) (k := 30) (by omega) (by decide) (by decide)
    have m2 : CMulW b 1000000007 := mulW (m := 40) (k := 30) (by omega) (by decide) (by decide)
    refine tk_setV (i := 2) (by walk_at "sto") (by walk_at "v" : TV _ _ _ _ (.int ((a * 998244353 + b * 1000000007 + 5) % 2305843009213693951))) ?_
    have o0 := Int.emod_nonneg (a * 998244353 + b * 1000000007 + 5) (show (2305843009213693951 : Int) ≠ 0 by decide)
    have o1 := Int.emod_lt_of_pos (a * 998244353 + b * 1000000007 + 5) (show (0 : Int) < 2305843009213693951 by decide)
    generalize (a * 998244353 + b * 1000000007 + 5) % 2305843009213693951 = o at o0 o1
    have m3 : CMulW o o := mulW (m := 61) (k := 61) (by omega) (by omega) (by decide)
    refine tk_setV (i := 3) (by walk_at "sto") (by walk_at "v" : TV _ _ _ _ (.int (o * o % 2305843009213693951))) ?_
    have q0 := Int.emod_nonneg (o * o) (show (2305843009213693951 : Int) ≠ 0 by decide)
    have q1 := Int.emod_lt_of_pos (o * o) (show (0 : Int) < 2305843009213693951 by decide)
    generalize (o * o) % 2305843009213693951 = u at q0 q1
    have m4 : CMulW u 2860486313 := mulW (m := 61) (k := 32) (by omega) (by decide) (by decide)
    have m5 : CMulW b b := mulW (m := 40) (k := 40) (by omega) (by omega) (by decide)
    have bb : (b * b).natAbs < 2 ^ 80 := by
      rw [Int.natAbs_mul]
      exact Nat.lt_of_lt_of_le (Nat.mul_lt_mul'' (show b.natAbs < 2 ^ 40 by omega) (show b.natAbs < 2 ^ 40 by omega)) (by decide)
    have m6 : CMulW (b * b) 48271 := mulW (m := 80) (k := 16) bb (by decide) (by decide)
    have m7 : CDivW o 3 := ⟨by decide, by decide⟩
    exact tk_ret (by walk_at "v" : TV _ _ _ _ (.int ((u * 2860486313 + b * b * 48271 + o / 3) % 2305843009213693921 / 1024))) (q _)
set_option maxHeartbeats 1000000 in
theorem ok_drawB (L1 : Dt P w F mg base "_law_stir" ["_law_number", "_law_place"] 1 spStir) (b1 : mg "len" = none) (Fn : DfN F mg "_law_draw" ["_law_bag_here", "_law_bound"] s_law_draw) : Dt P w F mg base "_law_draw" ["_law_bag_here", "_law_bound"] 2 spDrawB := by
  refine dt_ok Fn sc_law_draw (fun ds σ Q E h => ?_) (fun ds σ Q E Wx h => ?_)
  · obtain ⟨p, m, N, xs, rfl, _⟩ := h
    rfl
  · obtain ⟨p, m, N, _, rfl, hσ, ⟨ns, i, left, cnt, tot, rfl, hi, hn, c0, c1, t0, t1⟩, hN, m1, m2, q⟩ := h
    have ix : ∀ {ct : Ct} {ρ : EnvT} {σ' : Sg} {nm : Str} {k : Nat} {p1 p2 p3 : Pos} {j : Int} {xs : List DT} {x : DT}, TV ct (.Name nm p1) ρ σ' (.ref p) → σ' p = some (.lst xs) → atI xs j = some x → TV ct (.Subscript (.Name nm p1) (.Constant (.int j) k p2) p3) ρ σ' x := fun h1 h2 h3 => tv_sub h1 tv_int (pi_lst (lsT_c h2) h3)
    refine tk_ifG (tb_cmp (by walk_at "v" : TV _ _ _ _ (.int m)) (by walk_at "v" : TV _ _ _ _ (.int 1)) po_eqI (by rfl)) (fun z => ?_) (fun z => ?_)
    · have z := of_decide_eq_true z
      have q0 := q 0 [.lst (ns.map DT.int), .int (i : Int), .int left, .int cnt, .int tot] (by omega) (by omega) ⟨ns, i, left, cnt, tot, rfl, hi, hn, c0, by omega, t0, t1⟩
      rw [su_self hσ] at q0
      exact tk_ret (by walk_at "v" : TV _ _ _ _ (.int 0)) q0
    · refine tk_cons (ts_setItem ((tv_bin (ix (by walk_at "v") hσ (by rfl)) (by walk_at "v" : TV _ _ _ _ (.int 1)) po_addI : TV _ _ _ _ (.int (cnt + 1))).to ((by walk_at "v" : TV _ _ _ _ (.ref p)).to (tv_int.to ⟨p, _, 3, 3, rfl, rfl, hσ, rfl, ?_⟩))))
      show TBk _ _ _ (su σ p (.lst [.lst (ns.map DT.int), .int (i : Int), .int left, .int (cnt + 1), .int tot])) _
      have q : ∀ (s : Sg), (∃ ys, s = su σ p (.lst ys)) → ∀ d xs', 0 ≤ d → d < m → bagOk (N + 1) xs' → Q (.int d) (su s p (.lst xs')) := fun s ⟨ys, e⟩ d xs' d0 d1 ok => by rw [e, su_su]; exact q d xs' d0 d1 ok
      have q2 : ∀ (s : Sg) (xs' : List DT), s = su σ p (.lst xs') → ∀ d : Int, 0 ≤ d → d < m → bagOk (N + 1) xs' → Q (.int d) s := fun s xs' e d d0 d1 ok => by
        have := q (su σ p (.lst xs')) ⟨_, rfl⟩ d xs' d0 d1 ok
        rw [su_su] at this
        rw [e]; exact this
      have md : ∀ z : Int, 0 ≤ z % m ∧ z % m < m := fun z => ⟨Int.emod_nonneg _ (by omega), Int.emod_lt_of_pos _ (by omega)⟩
      have tl : ∀ {ct : Ct} {ρ : EnvT} {σ' : Sg} {nm : Str} {p1 p2 p3 p4 p5 : Pos} {k : Nat} {left cnt : Int} {i : Nat}, GlS ct "len" → ct.mg "len" = none → TV ct (.Name nm p1) ρ σ' (.ref p) → σ' p = some (.lst [.lst (ns.map DT.int), .int (i : Int), .int left, .int cnt, .int tot]) → TV ct (.Call (.Name "len" p2) [.Subscript (.Name nm p1) (.Constant (.int 0) k p3) p4] [] p5) ρ σ' (.int (ns.length : Int)) := fun h1 h2 h3 h4 => TV.castI (tv_callB h1 h2 (by walk_at "bt") (tva_cons (ix (x := .lst (ns.map DT.int)) h3 h4 (by rfl)) tva_nil) (pf_lenL lsT_l)) (by rw [List.length_map])
      have fin : ∀ (i : Nat) (left : Int) (ρ : EnvT), i ≤ ns.length → True := fun _ _ _ _ => trivial
      clear fin
      refine tk_ifG (tb_W (tbw_and (tb_cmp (ix (x := .int left) (by walk_at "v") su_same (by rfl)) (by walk_at "v" : TV _ _ _ _ (.int 2)) po_ltI (by rfl)) (fun _ => tbw_and1 (tb_cmp (ix (x := .int (i : Int)) (by walk_at "v") su_same (by rfl)) (tl (by rfl) (by walk_at "as") (by walk_at "v") su_same) po_eqI (by rfl))))) (fun z2 => ?_) (fun z2 => ?_)
      · refine tk_cons (ts_ret (te_bin (te_own L1 (by walk_at "k") (by rfl) ((tva_cons (ix (x := .int tot) (by walk_at "v") su_same (by rfl)) (tva_cons (ix (x := .int (cnt + 1)) (by walk_at "v") su_same (by rfl)) tva_nil)).to ⟨tot, cnt + 1, rfl, t0, t1, by omega, by omega, fun z3 => te_v (by walk_at "v" : TV _ _ _ _ (.int m)) ⟨_, po_modI (by omega), ?_⟩⟩))))
        exact q2 _ _ rfl _ (md z3).1 (md z3).2 ⟨ns, i, left, cnt + 1, tot, rfl, hi, hn, by omega, by omega, t0, t1⟩
      · have m7 : ∀ l2 : Int, CDivW l2 m := fun l2 => ⟨by omega, Nat.lt_trans ((Nat.log2_lt (by omega)).mpr (show m.natAbs < 2 ^ 30 by omega)) (by decide)⟩
        refine tk_join (fun ρ' σ' => ∃ (i2 : Nat) (l2 : Int) (a2 : Option DT), i2 ≤ ns.length ∧ σ' = su σ p (.lst [.lst (ns.map DT.int), .int (i2 : Int), .int l2, .int (cnt + 1), .int tot]) ∧ ρ' = [some (.ref p), some (.int m), a2, none]) (ts_if ((tb_cmp (ix (x := .int left) (by walk_at "v") su_same (by rfl)) (by walk_at "v" : TV _ _ _ _ (.int 2)) po_ltI (by rfl)).to ⟨fun z3 => ?_, fun z3 => tk_nil ⟨i, left, none, hi, rfl, rfl⟩⟩)) ?_
        · have hlt : i < ns.length := by
            have z3 := of_decide_eq_true z3
            rw [decide_eq_true z3, Bool.true_and] at z2
            have z2 := of_decide_eq_false z2
            omega
          obtain ⟨c, hc⟩ : ∃ c, ns[i]? = some c := ⟨_, List.getElem?_eq_getElem hlt⟩
          refine tk_setV (i := 2) (by walk_at "sto") (tv_sub (d := .int c) (ix (x := .lst (ns.map DT.int)) (by walk_at "v") su_same (by rfl)) (ix (x := .int (i : Int)) (by walk_at "v") su_same (by rfl)) (pi_lst lsT_l (Z.at_nat (j := i) rfl (by rw [List.getElem?_map, hc]; rfl)))) ?_
          refine tk_cons (ts_setItem ((TV.castI (j := ((i + 1 : Nat) : Int)) (tv_bin (ix (x := .int (i : Int)) (by walk_at "v") su_same (by rfl)) (by walk_at "v" : TV _ _ _ _ (.int 1)) po_addI) (by omega)).to ((by walk_at "v" : TV _ _ _ _ (.ref p)).to (tv_int.to ⟨p, _, 1, 1, rfl, rfl, su_same, rfl, ?_⟩))))
          rw [su_su]
          show TBk _ _ _ (su σ p (.lst [.lst (ns.map DT.int), .int ((i + 1 : Nat) : Int), .int left, .int (cnt + 1), .int tot])) _
          refine tk_ifG (tb_cmp (by walk_at "v" : TV _ _ _ _ (.int c)) (by walk_at "v" : TV _ _ _ _ (.int (10 ^ (18 : Int).toNat))) po_ltI (by rfl)) (fun z4 => ?_) (fun z4 => ?_)
          · refine tk_cons (ts_ret (te_bin (te_own L1 (by walk_at "k") (by rfl) ((tva_cons (tv_bin (by walk_at "v" : TV _ _ _ _ (.int c)) (by walk_at "v" : TV _ _ _ _ (.int 2305843009213693951)) (po_modI (by decide))) (tva_cons (ix (x := .int (cnt + 1)) (by walk_at "v") su_same (by rfl)) tva_nil)).to ⟨c % 2305843009213693951, cnt + 1, rfl, Int.emod_nonneg _ (by decide), Int.lt_of_lt_of_le (Int.emod_lt_of_pos _ (by decide)) (by decide), by omega, by omega, fun z3 => te_v (by walk_at "v" : TV _ _ _ _ (.int m)) ⟨_, po_modI (by omega), ?_⟩⟩))))
            exact q2 _ _ rfl _ (md z3).1 (md z3).2 ⟨ns, i + 1, left, cnt + 1, tot, rfl, by omega, hn, by omega, by omega, t0, t1⟩
          · refine tk_cons (ts_setItem ((tv_bin (by walk_at "v" : TV _ _ _ _ (.int c)) (by walk_at "v" : TV _ _ _ _ (.int (10 ^ (18 : Int).toNat))) po_subI).to ((by walk_at "v" : TV _ _ _ _ (.ref p)).to (tv_int.to ⟨p, _, 2, 2, rfl, rfl, su_same, rfl, ?_⟩))))
            rw [su_su]
            exact tk_nil ⟨i + 1, _, _, by omega, rfl, rfl⟩
        · rintro ρ' σ' ⟨i2, l2, a2, hi2, rfl, rfl⟩
          have cd := m7 l2
          refine tk_setV (i := 3) (by walk_at "sto") (tv_bin (ix (x := .int l2) (by walk_at "v") su_same (by rfl)) (by walk_at "v" : TV _ _ _ _ (.int m)) (po_modI (by omega))) ?_
          refine tk_cons (ts_setItem ((tv_bin (ix (x := .int l2) (by walk_at "v") su_same (by rfl)) (by walk_at "v" : TV _ _ _ _ (.int m)) (po_divI cd)).to ((by walk_at "v" : TV _ _ _ _ (.ref p)).to (tv_int.to ⟨p, _, 2, 2, rfl, rfl, su_same, rfl, ?_⟩))))
          rw [su_su]
          exact tk_ret (by walk_at "v" : TV _ _ _ _ (.int (l2 % m))) (q2 _ _ rfl _ (md l2).1 (md l2).2 ⟨ns, i2, _, cnt + 1, tot, rfl, hi2, hn, by omega, by omega, t0, t1⟩)
end
end Y

/-! ### texts put together -/
namespace Y
open PySem PySem.Spec L2 SX Z
theorem joinL_nil : ∀ ps : List (List Nat), TL.joinL [] ps = ps.flatten
  | [] => rfl
  | [p] => by simp [TL.joinL]
  | p :: q :: r => by
    rw [TL.joinL, joinL_nil (q :: r)]
    simp
theorem join_ones (l : List Nat) : TL.joinL (sOf "") (l.map fun k => [k]) = l := by
  rw [show sOf "" = [] from rfl, joinL_nil]
  induction l with
  | nil => rfl
  | cons a l ih => rw [List.map_cons, List.flatten_cons, ih]; rfl
/-- the text of drawn signs -/
theorem pm_ones {c : Ct} {σ : Sg} (l : List Nat) (h : l.length ≤ 1000000) : POM c "str.join" (.str (sOf "")) [.lst (l.map fun k => DT.str [k])] σ (.str l) := by
  have := pm_join (c := c) (σ := σ) (a := sOf "") (parts := l.map fun k => [k]) (x := .lst (l.map fun k => DT.str [k])) (by rw [List.map_map]; exact lsT_l) (by
    rw [show sOf "" = [] from rfl, List.map_map]
    have : ∀ l : List Nat, (l.map ((fun x : List Nat => x.length) ∘ fun k => [k])).sum = l.length := fun l => by
      induction l with
      | nil => rfl
      | cons a l ih => rw [List.map_cons, List.sum_cons, ih, List.length_cons]; simp only [Function.comp, List.length_singleton]; omega
    rw [this]
    simp
    omega)
  rwa [join_ones] at this
end Y

/-! ### drawn letters (family B) -/
namespace Y
open PySem PySem.Spec L2 SX Z
section
variable {c : Ct} {ρ : EnvT} {σ : Sg} {Q : DT → Sg → Prop} {E : TX} {p : Addr} {N : Nat} {xs : List DT}
/-- a draw from the bag -/
theorem te_drawB {m : Int} {a : Expr} {es : List Expr} {pos p1 : Pos} (L : DtQ c.hp c.P c.w c.K c.mg c.base "_law_draw" ["_law_bag_here", "_law_bound"] 2 spDrawB) (hk : 2 ≤ c.k) (hg : GlS c "_law_draw") (ha : TVA c (a :: es) ρ (su σ p (.lst xs)) [.ref p, .int m]) (ok : bagOk N xs) (hN : N < 2 ^ 38) (h1 : 1 ≤ m) (h2 : m < 2 ^ 30)
    (q : ∀ (d : Int) xs', 0 ≤ d → d < m → bagOk (N + 1) xs' → Q (.int d) (su σ p (.lst xs'))) (he : ∀ env, starEach (a :: es) env = (false, eval a env) :: starEach es env := by intro _; rfl) (hpl : ∀ pos env, (backTo pos (starEach es env)).any (·.1) = false := by intro _ _; rfl) :
    TE c (.Call (.Name "_law_draw" p1) (a :: es) [] pos) ρ (su σ p (.lst xs)) Q E :=
  te_own L hk hg (ha.to ⟨p, m, N, xs, rfl, su_same, ok, hN, h1, h2, fun d xs' d0 d1 ok' => by rw [su_su]; exact q d xs' d0 d1 ok'⟩) (by decide) he hpl
end
/-- letters, so many -/
def LTr (lo hi : Nat) (l : List Nat) : Prop := lo ≤ l.length ∧ l.length ≤ hi ∧ l.all isLet = true
theorem lt_app {a b : List Nat} {l1 h1 l2 h2 : Nat} (x : LTr l1 h1 a) (y : LTr l2 h2 b) : LTr (l1 + l2) (h1 + h2) (a ++ b) := ⟨by rw [List.length_append]; have := x.1; have := y.1; omega, by rw [List.length_append]; have := x.2.1; have := y.2.1; omega, by rw [List.all_append, x.2.2, y.2.2]; rfl⟩
theorem lt_take {a : List Nat} {lo hi n : Nat} (x : LTr lo hi a) : LTr (min n lo) n (a.take n) := ⟨by rw [List.length_take]; have := x.1; omega, by rw [List.length_take]; omega, by
  rw [List.all_eq_true]
  exact fun k hk => List.all_eq_true.mp x.2.2 k (List.mem_of_mem_take hk)⟩
theorem LTr.w {a : List Nat} {lo hi l2 h2 : Nat} (x : LTr lo hi a) (h : l2 ≤ lo) (h' : hi ≤ h2) : LTr l2 h2 a := ⟨Nat.le_trans h x.1, Nat.le_trans x.2.1 h', x.2.2⟩
theorem lt_flat {lo hi : Nat} : ∀ ps : List (List Nat), (∀ z ∈ ps, LTr lo hi z) → LTr (lo * ps.length) (hi * ps.length) ps.flatten
  | [], _ => ⟨by simp, by simp, rfl⟩
  | a :: r, h => by
    have h1 := lt_flat r (fun z hz => h z (List.mem_cons_of_mem _ hz))
    have h2 := h a (List.mem_cons_self ..)
    rw [List.flatten_cons, List.length_cons, Nat.mul_succ, Nat.mul_succ]
    exact (lt_app h2 h1).w (by omega) (by omega)
theorem lt_rep {a : List Nat} {lo hi n : Nat} (x : LTr lo hi a) : LTr (lo * n) (hi * n) (List.replicate n a).flatten := by
  have := lt_flat (lo := lo) (hi := hi) (List.replicate n a) (fun z hz => (List.mem_replicate.mp hz).2 ▸ x)
  rwa [List.length_replicate] at this
/-- the text of drawn texts -/
theorem pm_texts {c : Ct} {σ : Sg} {hi : Nat} (ps : List (List Nat)) (h : ps.flatten.length ≤ hi) (h2 : hi ≤ 1000000) : POM c "str.join" (.str (sOf "")) [.lst (ps.map DT.str)] σ (.str ps.flatten) := by
  have := pm_join (c := c) (σ := σ) (a := sOf "") (parts := ps) (x := .lst (ps.map DT.str)) lsT_l (by
    have e : (ps.map (·.length)).sum = ps.flatten.length := by rw [List.length_flatten]
    rw [e, show sOf "" = [] from rfl, List.length_nil, Nat.mul_zero]
    omega)
  rwa [show sOf "" = [] from rfl, joinL_nil] at this
theorem lt_at {al : List Nat} {lo hi : Nat} (h : LTr lo hi al) (d : Int) (d0 : 0 ≤ d) (d1 : d < al.length) : ∃ k, atI al d = some k ∧ isLet k = true := by
  have hlt : d.toNat < al.length := by omega
  exact ⟨al[d.toNat], Z.at_nat (j := d.toNat) (by omega) (List.getElem?_eq_getElem hlt), List.all_eq_true.mp h.2.2 _ (List.getElem_mem hlt)⟩
theorem alphabetsB (d : Int) (h0 : 0 ≤ d) (h5 : d < 5) : ∃ l, atI [DT.str (sOf "ab"), DT.str (sOf "abc"), DT.str (sOf "abcdefghijklmnopqrstuvwxyz"), DT.str (sOf "zy"), DT.str (sOf "az")] d = some (.str l) ∧ LTr 1 26 l := by
  have : d = 0 ∨ d = 1 ∨ d = 2 ∨ d = 3 ∨ d = 4 := by omega
  rcases this with rfl | rfl | rfl | rfl | rfl
  · exact ⟨_, rfl, by decide +kernel, by decide +kernel, by decide +kernel⟩
  · exact ⟨_, rfl, by decide +kernel, by decide +kernel, by decide +kernel⟩
  · exact ⟨_, rfl, by decide +kernel, by decide +kernel, by decide +kernel⟩
  · exact ⟨_, rfl, by decide +kernel, by decide +kernel, by decide +kernel⟩
  · exact ⟨_, rfl, by decide +kernel, by decide +kernel, by decide +kernel⟩
def spLettersB : TSpec := fun ds σ Q E => ∃ (p : Addr) (m N : Nat) (xs : List DT), ds = [.ref p, .int (m : Int)] ∧ σ p = some (.lst xs) ∧ bagOk N xs ∧ N < 2 ^ 37 ∧ 1 ≤ m ∧ m ≤ 200 ∧ ∀ (r : List Nat) xs', rowOk r → r.length ≤ m → bagOk (N + 1000) xs' → Q (.str r) (su σ p (.lst xs'))
section
variable {P : Program} {w : World} {F : PySem.W.Frag} {mg : Str → Option Value} {base : Heap}
set_option maxHeartbeats 2000000 in
theorem ok_lettersB (L : Dt P w F mg base "_law_draw" ["_law_bag_here", "_law_bound"] 2 spDrawB) (b1 : mg "range" = none) (b2 : mg "len" = none) (b3 : mg "int" = none) (Fn : DfN F mg "_law_letters" ["_law_bag_here", "_law_most"] s_law_letters) : Dt P w F mg base "_law_letters" ["_law_bag_here", "_law_most"] 3 spLettersB := by
  refine dt_ok Fn sc_law_letters (fun ds σ Q E h => ?_) (fun ds σ Q E Wx h => ?_)
  · obtain ⟨p, m, N, xs, rfl, _⟩ := h
    rfl
  · obtain ⟨p, m, N, xs, rfl, hσ, ok, hN, m1, m2, q⟩ := h
    rw [← su_self hσ]
    have q : ∀ (r : List Nat) xs', rowOk r → r.length ≤ m → bagOk (N + 1000) xs' → Q (.str r) (su σ p (.lst xs')) := q
    refine tk_cons (ts_un2 (i := 2) (j := 3) (by walk_at "tgt") (by walk_at "tgt") (te_tup (ta_cons (te_drawB (m := 6) L (by walk_at "k") (by rfl) (by walk_at "va" : TVA _ _ _ _ [.ref p, .int 6]) ok (by omega) (by decide) (by decide) fun way xs1 w0 w1 ok1 => ta_cons (te_bin (te_v (by walk_at "v" : TV _ _ _ _ (.int 2)) (te_drawB (m := 3) L (by walk_at "k") (by rfl) (by walk_at "va" : TVA _ _ _ _ [.ref p, .int 3]) ok1 (by omega) (by decide) (by decide) fun d xs2 d0 d1 ok2 => ⟨_, po_addI, ta_nil ⟨by exact Nat.le_of_ble_eq_true rfl, _, _, rfl, ?_⟩⟩)))))) (.inr (by rfl)))
    obtain ⟨few, hfew, f1, f2⟩ : ∃ few : Nat, (2 : Int) + d = (few : Int) ∧ 2 ≤ few ∧ few ≤ 4 := ⟨(2 + d).toNat, by omega, by omega, by omega⟩
    rw [hfew]
    refine tk_set (i := 4) (by walk_at "sto") (te_sub (te_lst (ta_cons (te_bin (te_v (by walk_at "v" : TV _ _ _ _ (.int 1)) (te_drawB (m := (m : Int)) L (by walk_at "k") (by rfl) (by walk_at "va" : TVA _ _ _ _ [.ref p, .int (m : Int)]) ok2 (by omega) (by omega) (by omega) fun d3 xs3 e0 e1 ok3 => ⟨_, po_addI, ta_v (by walk_at "v" : TV _ _ _ _ (.int (m : Int))) (ta_nil ⟨by exact Nat.le_of_ble_eq_true rfl, te_callTy (by rfl) (by walk_at "as") (by walk_at "bt") (ta_cons (te_cmp (te_drawB (m := 4) L (by walk_at "k") (by rfl) (by walk_at "va" : TVA _ _ _ _ [.ref p, .int 4]) ok3 (by omega) (by decide) (by decide) fun d4 xs4 g0 g1 ok4 => te_v (by walk_at "v" : TV _ _ _ _ (.int 0)) ⟨_, po_eqI, ta_nil ⟨_, pf_intB, ?_⟩⟩) (by rfl)))⟩)⟩))))))
    obtain ⟨cn, hcn, c1, c2⟩ : ∃ cn : Nat, atI [DT.int (1 + d3), .int (m : Int)] (if decide (d4 = 0) = true then 1 else 0) = some (.int (cn : Int)) ∧ 1 ≤ cn ∧ cn ≤ m := by
      by_cases z : d4 = 0
      · rw [if_pos (decide_eq_true z)]; exact ⟨m, rfl, m1, Nat.le_refl _⟩
      · rw [if_neg (by rw [decide_eq_false z]; decide)]
        exact ⟨(1 + d3).toNat, by rw [show ((1 + d3).toNat : Int) = 1 + d3 by omega]; rfl, by omega, by omega⟩
    refine ⟨_, pi_lst lsT_l hcn, ?_⟩
    refine tk_set (i := 5) (by walk_at "sto") (te_sub (te_v (by walk_at "v" : TV _ _ _ _ (.lst [DT.str (sOf "ab"), DT.str (sOf "abc"), DT.str (sOf "abcdefghijklmnopqrstuvwxyz"), DT.str (sOf "zy"), DT.str (sOf "az")])) (te_drawB (m := 5) L (by walk_at "k") (by rfl) (by walk_at "va" : TVA _ _ _ _ [.ref p, .int 5]) ok4 (by omega) (by decide) (by decide) fun d5 xs5 h0 h1 ok5 => ?_)))
    obtain ⟨al, hal, la⟩ := alphabetsB d5 h0 h1
    refine ⟨_, pi_lst lsT_l hal, ?_⟩
    have la1 := la.1
    have la2 := la.2.1
    -- signs
    refine tk_set (i := 6) (by walk_at "sto") (te_meth PySem.F.plainAttrs_str PySem.F.slot_str_join rfl (te_v (by walk_at "v" : TV _ _ _ _ (.str (sOf ""))) ⟨ty_str, ta_cons (te_lcR (α := Nat) (f := fun k => .str [k]) (Pa := fun k => isLet k = true) (R := fun i σ2 => ∃ xs', σ2 = su σ p (.lst xs') ∧ bagOk (N + 5 + i) xs') (own := [("_law_step", 9)]) (t := .nm 9) (by walk_at "tgt") (by walk_at "blk") (by decide)
      (ti_range1 (by rfl) (by walk_at "as") (te_v (by walk_at "v" : TV _ _ _ _ (.int (cn : Int))) ⟨_, rfl, by omega, by rw [List.length_map, List.length_range]; omega, ⟨xs5, rfl, ok5⟩, ?_, ?_⟩)))⟩))
    · rintro i d6 σ2 hd ⟨xs', rfl, ok6⟩
      have hi := (List.getElem?_eq_some_iff.mp hd).1
      rw [List.length_map, List.length_range] at hi
      refine ⟨_, rfl, te_sub (te_v (by walk_at "v" : TV _ _ _ _ (.str al)) (te_drawB (m := (al.length : Int)) L (by walk_at "k") (by rfl) (tva_cons (by walk_at "v" : TV _ _ _ _ (.ref p)) (tva_cons (tv_callB (by rfl) (by walk_at "as") (by walk_at "bt") (by walk_at "va" : TVA _ _ _ _ [.str al]) (pf_lenS (by omega))) tva_nil)) ok6 (by omega) (by omega) (by omega) fun d7 xs7 k0 k1 ok7 => ?_))⟩
      obtain ⟨k, hk, lk⟩ := lt_at la d7 k0 k1
      exact ⟨_, pi_str (by omega) hk, k, rfl, lk, xs7, rfl, ok7⟩
    rintro l0 σ2 hl0 hp0 ⟨xs6, rfl, ok6⟩
    rw [List.length_map, List.length_range] at hl0 ok6
    have hl0 : l0.length = cn := by omega
    refine ta_nil ((pm_ones l0 (by omega)).to ?_)
    have ok6 := bag_le ok6 (by omega : _ ≤ N + 210)
    have ll0 : LTr cn 1000 l0 := ⟨by omega, by omega, by rw [List.all_eq_true]; exact hp0⟩
    clear hl0 hp0
    have one : ∀ {l : List Nat} {i : Int} {hi : Nat}, 1 ≤ i → LTr 1 hi l → LTr 1 i.toNat (cutN l none (some i)) := fun {l i hi} h1 h2 => by
      rw [Z.cut_to (j := i.toNat) (by omega)]
      exact (lt_take h2).w (by omega) (Nat.le_refl _)
    have way_ : ∀ {ct : Ct} {ρ : EnvT} {σ' : Sg} {nm : Str} {k : Nat} {p1 p2 p3 : Pos} (n : Int), TV ct (.Name nm p1) ρ σ' (.int way) → TB ct (.Compare (.Name nm p1) [.Eq] [.Constant (.int n) k p2] p3) ρ σ' (decide (way = n)) := fun n h => tb_cmp h tv_int po_eqI (by rfl)
    -- way 1
    refine tk_join (fun ρ' σ' => ∃ (l : List Nat) (xs' : List DT) (a7 : Option DT), σ' = su σ p (.lst xs') ∧ LTr cn 1000 l ∧ bagOk (N + 700) xs' ∧ ρ' = [some (.ref p), some (.int (m : Int)), some (.int way), some (.int (few : Int)), some (.int (cn : Int)), some (.str al), some (.str l), a7, none, none]) (ts_if ((way_ 1 (by walk_at "v")).to ⟨fun z => ?_, fun z => tk_nil ⟨l0, xs6, _, rfl, ll0, bag_le ok6 (by omega), rfl⟩⟩)) ?_
    · refine tk_cons (ts_setLcC (i := 7) (by walk_at "sto") (by rfl) (te_lcR (α := List Nat) (f := DT.str) (Pa := fun k => LTr 1 4 k) (R := fun i σ2 => ∃ xs', σ2 = su σ p (.lst xs') ∧ bagOk (N + 210 + i) xs') (own := [("_law_step", 9)]) (t := .nm 9) (by walk_at "tgt") (by walk_at "blk") (by decide)
        (ti_range1 (by rfl) (by walk_at "as") (te_v (by walk_at "v" : TV _ _ _ _ (.int (few : Int))) ⟨_, rfl, by omega, by rw [List.length_map, List.length_range]; omega, ⟨xs6, rfl, ok6⟩, ?_, ?_⟩))))
      · rintro i d8 σ2 hd ⟨xs', rfl, ok7⟩
        have hi := (List.getElem?_eq_some_iff.mp hd).1
        rw [List.length_map, List.length_range] at hi
        refine ⟨_, rfl, te_slice (te_v (by walk_at "v" : TV _ _ _ _ (.str l0)) (te_bin (te_v (by walk_at "v" : TV _ _ _ _ (.int 1)) (te_drawB (m := 4) L (by walk_at "k") (by rfl) (by walk_at "va" : TVA _ _ _ _ [.ref p, .int 4]) ok7 (by omega) (by decide) (by decide) fun d9 xs9 k0 k1 ok9 => ⟨_, po_addI, _, rfl, _, pl_str (by have := ll0.2.1; omega), _, rfl, (one (by omega) (ll0.w (by omega) (Nat.le_refl _))).w (Nat.le_refl _) (by omega), xs9, rfl, ok9⟩))))⟩
      rintro ps σ2 hps hpp ⟨xs7, rfl, ok7⟩
      rw [List.length_map, List.length_range] at hps ok7
      have hps : ps.length = few := by omega
      have ok7 := bag_le ok7 (by omega : _ ≤ N + 214)
      refine tk_set (i := 6) (by walk_at "sto") (te_meth PySem.F.plainAttrs_str PySem.F.slot_str_join rfl (te_v (by walk_at "v" : TV _ _ _ _ (.str (sOf ""))) ⟨ty_str, ta_cons (te_lcR (α := List Nat) (f := DT.str) (Pa := fun k => LTr 1 5 k) (R := fun i σ2 => ∃ xs', σ2 = su σ p (.lst xs') ∧ bagOk (N + 214 + 2 * i) xs') (own := [("_law_step", 9)]) (t := .nm 9) (by walk_at "tgt") (by walk_at "blk") (by decide)
        (ti_range1 (by rfl) (by walk_at "as") (te_v (by walk_at "v" : TV _ _ _ _ (.int (cn : Int))) ⟨_, rfl, by omega, by rw [List.length_map, List.length_range]; omega, ⟨xs7, rfl, ok7⟩, ?_, ?_⟩)))⟩))
      · rintro i d8 σ2 hd ⟨xs', rfl, ok8⟩
        have hi := (List.getElem?_eq_some_iff.mp hd).1
        rw [List.length_map, List.length_range] at hi
        refine ⟨_, rfl, te_bin (te_sub (te_v (by walk_at "v" : TV _ _ _ _ (.lst (ps.map DT.str))) (te_drawB (m := (few : Int)) L (by walk_at "k") (by rfl) (by walk_at "va" : TVA _ _ _ _ [.ref p, .int (few : Int)]) ok8 (by omega) (by omega) (by omega) fun d9 xs9 k0 k1 ok9 => ?_)))⟩
        obtain ⟨k, hk⟩ : ∃ k, ps[d9.toNat]? = some k := ⟨_, List.getElem?_eq_getElem (by omega)⟩
        have lk := hpp k (List.mem_of_getElem? hk)
        refine ⟨.str k, pi_lst lsT_l (Z.at_nat (j := d9.toNat) (by omega) (by rw [List.getElem?_map, hk]; rfl)), te_slice (te_v (by walk_at "v" : TV _ _ _ _ (.str (sOf "xy"))) (te_drawB (m := 2) L (by walk_at "k") (by rfl) (by walk_at "va" : TVA _ _ _ _ [.ref p, .int 2]) ok9 (by omega) (by decide) (by decide) fun d10 xs10 n0 n1 ok10 => ⟨_, rfl, _, pl_str (by decide +kernel), _, po_addS ?_, _, rfl, ?_, xs10, rfl, bag_le ok10 (by omega)⟩))⟩
        · rw [Z.cut_to (j := d10.toNat) (by omega), List.length_take]
          have := lk.2.1
          omega
        · rw [Z.cut_to (j := d10.toNat) (by omega)]
          have lx : LTr 2 2 (sOf "xy") := ⟨by decide +kernel, by decide +kernel, by decide +kernel⟩
          exact (lt_app lk (lt_take (n := d10.toNat) lx)).w (by omega) (by omega)
      rintro qs σ2 hqs hqp ⟨xs8, rfl, ok8⟩
      rw [List.length_map, List.length_range] at hqs ok8
      have lf := lt_flat qs hqp
      rw [show qs.length = cn by omega] at lf
      refine ta_nil ((pm_texts qs (hi := 1000) (by have := lf.2.1; omega) (by decide)).to (tk_nil ⟨_, xs8, _, rfl, lf.w (by omega) (by omega), bag_le ok8 (by omega), rfl⟩))
    rintro ρ' σ' ⟨l1, xs7, a7, rfl, ll1, ok7, rfl⟩
    clear ll0 ok6
    have k1 := ll1.1
    have k2 := ll1.2.1
    -- way 2
    refine tk_join (fun ρ' σ' => ∃ (l : List Nat) (xs' : List DT), σ' = su σ p (.lst xs') ∧ LTr cn 2000 l ∧ bagOk (N + 701) xs' ∧ ρ' = [some (.ref p), some (.int (m : Int)), some (.int way), some (.int (few : Int)), some (.int (cn : Int)), some (.str al), some (.str l), a7, none, none]) (ts_if ((way_ 2 (by walk_at "v")).to ⟨fun z => ?_, fun z => tk_nil ⟨l1, xs7, rfl, ll1.w (Nat.le_refl _) (by decide), bag_le ok7 (by omega), rfl⟩⟩)) ?_
    · refine tk_set (i := 6) (by walk_at "sto") (te_bin (te_bin (te_slice (te_v (by walk_at "v" : TV _ _ _ _ (.str l1)) (te_bin (te_v (by walk_at "v" : TV _ _ _ _ (.int 1)) (te_drawB (m := 5) L (by walk_at "k") (by rfl) (by walk_at "va" : TVA _ _ _ _ [.ref p, .int 5]) ok7 (by omega) (by decide) (by decide) fun d9 xs9 k0 k1 ok9 => ⟨_, po_addI, _, rfl, _, pl_str (by omega), ?_⟩)))))))
      have l5 : LTr 1 5 (cutN l1 none (some (1 + d9))) := (one (by omega) (ll1.w (by omega) (Nat.le_refl _))).w (Nat.le_refl _) (by omega)
      generalize cutN l1 none (some (1 + d9)) = l5' at l5
      have l6 := lt_rep (n := cn) l5
      have lm : l5'.length * cn ≤ 5 * 200 := Nat.mul_le_mul l5.2.1 (by omega)
      refine te_v (by walk_at "v" : TV _ _ _ _ (.int (cn : Int))) ⟨_, po_mulS (by omega) (by omega) (by rw [Int.toNat_natCast]; omega), te_v (by walk_at "v" : TV _ _ _ _ (.str l1)) ⟨_, po_addS (by rw [Int.toNat_natCast]; have := l6.2.1; omega), tk_nil ⟨_, xs9, rfl, ?_, ok9, rfl⟩⟩⟩
      rw [Int.toNat_natCast]
      exact (lt_app l6 ll1).w (by omega) (by omega)
    rintro ρ' σ' ⟨l2, xs8, rfl, ll2, ok8, rfl⟩
    clear ll1 k1 k2 ok7
    have k1 := ll2.1
    have k2 := ll2.2.1
    -- way 3
    refine tk_join (fun ρ' σ' => ∃ (l : List Nat), σ' = su σ p (.lst xs8) ∧ LTr cn 2000 l ∧ ρ' = [some (.ref p), some (.int (m : Int)), some (.int way), some (.int (few : Int)), some (.int (cn : Int)), some (.str al), some (.str l), a7, none, none]) (ts_if ((way_ 3 (by walk_at "v")).to ⟨fun z => ?_, fun z => tk_nil ⟨l2, rfl, ll2, rfl⟩⟩)) ?_
    · have l5 : LTr 1 1 (cutN l2 none (some 1)) := one (i := 1) (by decide) (ll2.w (by omega) (Nat.le_refl _))
      have l6 := lt_rep (n := cn) l5
      refine tk_setV (i := 6) (by walk_at "sto") (tv_bin (tv_slice (by walk_at "v" : TV _ _ _ _ (.str l2)) to_none (to_some (by walk_at "v" : TV _ _ _ _ (.int 1))) (pl_str (by omega))) (by walk_at "v" : TV _ _ _ _ (.int (cn : Int))) (po_mulS (by omega) (by omega) (by rw [Int.toNat_natCast, show (cutN l2 none (some 1)).length = 1 by have := l5.1; have := l5.2.1; omega]; omega))) (tk_nil ⟨_, rfl, ?_, rfl⟩)
      rw [Int.toNat_natCast]
      exact l6.w (by omega) (by omega)
    rintro ρ' σ' ⟨l3, rfl, ll3, rfl⟩
    clear ll2 k1 k2
    have k1 := ll3.1
    have k2 := ll3.2.1
    -- way 4
    refine tk_join (fun ρ' σ' => ∃ (l : List Nat) (xs' : List DT) (a8 : Option DT), σ' = su σ p (.lst xs') ∧ LTr cn 2000 l ∧ bagOk (N + 702) xs' ∧ ρ' = [some (.ref p), some (.int (m : Int)), some (.int way), some (.int (few : Int)), some (.int (cn : Int)), some (.str al), some (.str l), a7, a8, none]) (ts_if ((way_ 4 (by walk_at "v")).to ⟨fun z => ?_, fun z => tk_nil ⟨l3, xs8, _, rfl, ll3, bag_le ok8 (by omega), rfl⟩⟩)) ?_
    · refine tk_setV (i := 8) (by walk_at "sto") (TV.castS (j := l3.take ((cn + 1) / 2)) (tv_slice (by walk_at "v" : TV _ _ _ _ (.str l3)) to_none (to_some (tv_bin (tv_bin (by walk_at "v" : TV _ _ _ _ (.int (cn : Int))) (by walk_at "v" : TV _ _ _ _ (.int 1)) po_addI) (by walk_at "v" : TV _ _ _ _ (.int 2)) (po_divI ⟨by decide, by decide⟩))) (pl_str (by omega))) (Z.cut_to (j := (cn + 1) / 2) (by omega))) ?_
      have lh := lt_take (n := (cn + 1) / 2) ll3
      have lh1 := lh.1
      have lh2 := lh.2.1
      refine tk_set (i := 6) (by walk_at "sto") (te_bin (te_bin (te_v (by walk_at "v" : TV _ _ _ _ (.str (l3.take ((cn + 1) / 2)))) (te_slice (te_v (by walk_at "v" : TV _ _ _ _ (.str l3)) (te_drawB (m := 9) L (by walk_at "k") (by rfl) (by walk_at "va" : TVA _ _ _ _ [.ref p, .int 9]) ok8 (by omega) (by decide) (by decide) fun d9 xs9 k0 k1 ok9 => ⟨_, rfl, _, pl_str (by omega), ?_⟩))))))
      rw [Z.cut_to (j := d9.toNat) (by omega)]
      have ls := lt_take (n := d9.toNat) ll3
      have ls2 := ls.2.1
      refine ⟨_, po_addS (by omega), te_v (by walk_at "v" : TV _ _ _ _ (.str (l3.take ((cn + 1) / 2)))) ⟨_, po_addS (by rw [List.length_append]; omega), tk_nil ⟨_, xs9, _, rfl, (lt_app (lt_app lh ls) lh).w (by omega) (by omega), ok9, rfl⟩⟩⟩
    rintro ρ' σ' ⟨l4, xs9, a8, rfl, ll4, ok9, rfl⟩
    have lt4 := lt_take (n := cn) ll4
    have e1 := lt4.1
    have e2 := lt4.2.1
    refine tk_ret (TV.castS (j := l4.take cn) (tv_slice (by walk_at "v" : TV _ _ _ _ (.str l4)) to_none (to_some (by walk_at "v" : TV _ _ _ _ (.int (cn : Int)))) (pl_str (by have := ll4.2.1; omega))) (Z.cut_to (j := cn) rfl)) (q _ _ ⟨by omega, by omega, lt4.2.2⟩ (by omega) (bag_le ok9 (by omega)))
end
end Y

/-! ### tallies, numbers, checks (plain parts, without Table) -/
namespace Y
open PySem PySem.Spec L2 SX Z
abbrev CS := List (List Nat × Int)
def cT (t : CS) : CK := t.map fun p => (.inr p.1, p.2)
def winL (r : List Nat) (w : Nat) : List (List Nat) := (List.range (r.length + 1 - w)).map fun i => (r.drop i).take w
theorem win_len (r : List Nat) (w : Nat) : (winL r w).length = r.length + 1 - w := by unfold winL; simp
def isIntV (y : DT) (lo hi : Int) : Bool := match y with
  | .int i => decide (lo ≤ i) && decide (i ≤ hi)
  | _ => false
theorem kit_int : ∀ T ∈ tys, T = "int" ∨ T = "bool" ∨ kitB T "int" = some false := by
  intro T hT
  simp only [tys, List.mem_cons, List.not_mem_nil, or_false] at hT
  rcases hT with rfl | rfl | rfl | rfl | rfl | rfl | rfl
  · exact .inr (.inr (by decide +kernel))
  · exact .inr (.inl rfl)
  · exact .inl rfl
  · exact .inr (.inr (by decide +kernel))
  · exact .inr (.inr (by decide +kernel))
  · exact .inr (.inr (by decide +kernel))
  · exact .inr (.inr (by decide +kernel))
theorem ty_int {σ : Sg} {y : DT} (h : tyT σ y = some "int") : ∃ i, y = .int i := by
  cases y with
  | int i => exact ⟨i, rfl⟩
  | ref p =>
    unfold tyT at h
    cases e : σ p with
    | none => simp [e] at h
    | some cc => cases cc <;> simp [e] at h
  | _ => simp [tyT] at h
theorem ty_bl {σ : Sg} {y : DT} (h : tyT σ y = some "bool") : ∃ i, y = .bl i := by
  cases y with
  | bl i => exact ⟨i, rfl⟩
  | ref p =>
    unfold tyT at h
    cases e : σ p with
    | none => simp [e] at h
    | some cc => cases cc <;> simp [e] at h
  | _ => simp [tyT] at h
def spIntB : TSpec := fun ds σ Q E => ∃ (y : DT) (lo hi : Int), ds = [y, .int lo, .int hi] ∧ bi y = true ∧ Q (.bl (isIntV y lo hi)) σ
def spChkRow : TSpec := fun ds σ Q E => ∃ r, ds = [.str r] ∧ rowOk r ∧ Q .non σ
def spChkWidth : TSpec := fun ds σ Q E => ∃ (r : List Nat) (w : Nat), ds = [.str r, .int (w : Int)] ∧ 1 ≤ w ∧ w ≤ 12 ∧ w ≤ r.length ∧ r.length ≤ 1000000 ∧ Q .non σ
section
variable {P : Program} {w : World} {F : PySem.W.Frag} {mg : Str → Option Value} {base : Heap}
set_option maxHeartbeats 400000
theorem ok_is_integerB (Fn : DfN F mg "is_integer" ["value", "low", "high"] s_is_integer) (b1 : mg "isinstance" = none) (b2 : mg "int" = none) (b3 : mg "bool" = none) : Dt P w F mg base "is_integer" ["value", "low", "high"] 1 spIntB := by
  refine dt_ok Fn sc_is_integer (fun ds σ Q E h => ?_) (fun ds σ Q E Wx h => ?_)
  · obtain ⟨y, lo, hi, rfl, _⟩ := h
    rfl
  · obtain ⟨y, lo, hi, rfl, hy, q⟩ := h
    obtain ⟨T, hT, mem⟩ := bi_ty hy
    have hT := hT σ
    rcases kit_int T (tyT_mem hT) with rfl | rfl | hk
    · obtain ⟨i, rfl⟩ := ty_int hT
      refine tk_ifF (TB.cast (tb_W (tbw_or (tb_not (tb_val (tv_callB (by rfl) (by walk_at "as") (by walk_at "bt") (by walk_at "va") (pf_isi (r := true) (by rfl) (by decide +kernel))))) (fun _ => tbw_or1 (tb_val (tv_callB (by rfl) (by walk_at "as") (by walk_at "bt") (by walk_at "va") (pf_isi (r := false) (by rfl) (by decide +kernel))))))) (by rfl)) (tk_nil ?_)
      exact tk_ret (TV.castB (tv_and (by walk_at "v") (fun _ => tv_one (tv_or (r := false) (TV.castB (i := isNon (.int hi)) (by walk_at "v") rfl) (fun _ => tv_one (by walk_at "v"))))) (by rfl)) q
    · obtain ⟨b, rfl⟩ := ty_bl hT
      refine tk_ifT (TB.cast (tb_W (tbw_or (tb_not (tb_val (tv_callB (by rfl) (by walk_at "as") (by walk_at "bt") (by walk_at "va") (pf_isi (r := true) (by rfl) (by decide +kernel))))) (fun _ => tbw_or1 (tb_val (tv_callB (by rfl) (by walk_at "as") (by walk_at "bt") (by walk_at "va") (pf_isi (r := true) (by rfl) (by decide +kernel))))))) (by rfl)) ?_
      exact tk_ret (v := .bl false) (by walk_at "v") q
    · have e : isIntV y lo hi = false := by
        cases y with
        | int i => cases hT; exact absurd hk (by decide +kernel)
        | _ => rfl
      rw [e] at q
      refine tk_ifT (TB.cast (tb_W (tbw_or (s := true) (tb_not (tb_val (tv_callB (by rfl) (by walk_at "as") (by walk_at "bt") (by walk_at "va") (pf_isi (r := false) hT hk)))) (fun z => absurd z (by decide)))) (by rfl)) ?_
      exact tk_ret (v := .bl false) (by walk_at "v") q
theorem ok_check_row (L : Dt P w F mg base "is_row" ["value"] 2 spRow) (Fn : DfN F mg "check_row" ["value"] s_check_row) : Dt P w F mg base "check_row" ["value"] 3 spChkRow := by
  refine dt_ok Fn sc_check_row (fun ds σ Q E h => ?_) (fun ds σ Q E Wx h => ?_)
  · obtain ⟨r, rfl, _⟩ := h
    rfl
  · obtain ⟨r, rfl, ok, q⟩ := h
    exact tk_ifF (TB.cast (tb_not (tb_val (v_is_row L (by walk_at "k") (by rfl) (by walk_at "va") rfl (fun s e => by cases e; have := ok.2.1; omega)))) (by rw [isRowV_ok ok]; rfl)) (tk_nil (tk_nil q))
theorem ok_check_widthB (L : Dt P w F mg base "is_integer" ["value", "low", "high"] 1 spIntB) (g : GlT F mg "WIDEST" (.int 12)) (b1 : mg "min" = none) (b2 : mg "len" = none) (Fn : DfN F mg "check_width" ["row", "value"] s_check_width) : Dt P w F mg base "check_width" ["row", "value"] 2 spChkWidth := by
  refine dt_ok Fn sc_check_width (fun ds σ Q E h => ?_) (fun ds σ Q E Wx h => ?_)
  · obtain ⟨r, w, rfl, _⟩ := h
    rfl
  · obtain ⟨r, w, rfl, w1, w2, w3, hr, q⟩ := h
    exact tk_ifF (TB.cast (tb_not (tb_val (tv_own (d := .bl true) L (by walk_at "k") (by rfl) (by walk_at "va") (fun q => ⟨.int (w : Int), 1, min 12 (r.length : Int), rfl, rfl, by
      have a1 : (1 : Int) ≤ w := by omega
      have a2 : (w : Int) ≤ min 12 (r.length : Int) := by omega
      unfold isIntV
      simp only [decide_eq_true a1, decide_eq_true a2]
      exact q⟩)))) (by rfl)) (tk_nil (tk_nil q))
end
end Y

/-! ### moves -/
namespace Y
open PySem PySem.Spec L2 SX Z
inductive Mv | sw (a b c d : Nat) | tn (t : Nat)
def mvNm : Mv → List Nat
  | .sw _ _ _ _ => sOf "swap"
  | .tn _ => sOf "turn"
def mvNs : Mv → List Int
  | .sw a b c d => [(a : Int), (b : Int), (c : Int), (d : Int)]
  | .tn t => [(t : Int)]
def mvT (m : Mv) : DT := .tup (.str (mvNm m) :: (mvNs m).map DT.int)
def mvSm : Mv → Prop
  | .sw a b c d => a < b ∧ b ≤ c ∧ c < d ∧ d ≤ 1000
  | .tn t => 1 ≤ t ∧ t ≤ 1000
/-- a piece -/
def pc (r : List Nat) (w i : Nat) : List Nat := (r.drop i).take (w - 1)
def mvOk (r : List Nat) (w : Nat) : Mv → Prop
  | .sw a b c d => a < b ∧ b ≤ c ∧ c < d ∧ d + w ≤ r.length + 1 ∧ pc r w a = pc r w c ∧ pc r w b = pc r w d
  | .tn t => 1 ≤ t ∧ t + w ≤ r.length ∧ pc r w 0 = pc r w (r.length + 1 - w)
def goM (r : List Nat) (w : Nat) : Mv → List Nat
  | .sw a b c d => r.take (a + (w - 1)) ++ (r.drop (c + (w - 1))).take (d - c) ++ (r.drop (b + (w - 1))).take (c - b) ++ (r.drop (a + (w - 1))).take (b - a) ++ r.drop (d + (w - 1))
  | .tn t => r.drop t ++ (r.drop (w - 1)).take t
theorem mvOk.sm {r : List Nat} {w : Nat} {m : Mv} (h : mvOk r w m) (hr : r.length ≤ 200) (hw : 1 ≤ w) : mvSm m := by
  cases m with
  | sw a b c d => obtain ⟨h1, h2, h3, h4, _⟩ := h; exact ⟨h1, h2, h3, by omega⟩
  | tn t => obtain ⟨h1, h2, _⟩ := h; exact ⟨h1, by omega⟩
theorem mvSm.ns {m : Mv} (h : mvSm m) : ∀ n ∈ mvNs m, 0 ≤ n ∧ n ≤ 1000 := by
  cases m with
  | sw a b c d =>
    obtain ⟨h1, h2, h3, h4⟩ := h
    intro n hn
    simp only [mvNs, List.mem_cons, List.not_mem_nil, or_false] at hn
    rcases hn with rfl | rfl | rfl | rfl <;> exact ⟨by omega, by omega⟩
  | tn t =>
    obtain ⟨h1, h2⟩ := h
    intro n hn
    simp only [mvNs, List.mem_cons, List.not_mem_nil, or_false] at hn
    subst hn
    exact ⟨by omega, by omega⟩
theorem mvNs_len (m : Mv) : (mvNs m).length ≤ 4 := by cases m <;> exact Nat.le_of_ble_eq_true rfl
theorem sh_mv (m : Mv) : Sh 2 (mvT m) := fun x hx => by
  rcases List.mem_cons.mp hx with rfl | hx
  · have e1 : (sOf "swap").all (fun k => decide (k < 1114112)) = true := by decide +kernel
    have e2 : (sOf "turn").all (fun k => decide (k < 1114112)) = true := by decide +kernel
    cases m
    · exact e1
    · exact e2
  · obtain ⟨i, _, rfl⟩ := List.mem_map.mp hx
    exact trivial
theorem goM_len {r : List Nat} {w : Nat} {m : Mv} (h : mvOk r w m) (hw : 1 ≤ w) : (goM r w m).length = r.length := by
  cases m with
  | sw a b c d =>
    obtain ⟨h1, h2, h3, h4, _⟩ := h
    simp only [goM, List.length_append, List.length_take, List.length_drop]
    omega
  | tn t =>
    obtain ⟨h1, h2, _⟩ := h
    simp only [goM, List.length_append, List.length_take, List.length_drop]
    omega
def spLast : TSpec := fun ds σ Q E => ∃ (r : List Nat) (w : Nat), ds = [.str r, .int (w : Int)] ∧ r.length ≤ 200 ∧ Q (.int ((r.length : Int) - (w : Int) + 1)) σ
def spPiece : TSpec := fun ds σ Q E => ∃ (r : List Nat) (w i : Nat), ds = [.str r, .int (w : Int), .int (i : Int)] ∧ r.length ≤ 200 ∧ 1 ≤ w ∧ w ≤ 12 ∧ i ≤ 1000 ∧ Q (.str (pc r w i)) σ
section
variable {P : Program} {w : World} {F : PySem.W.Frag} {mg : Str → Option Value} {base : Heap}
set_option maxHeartbeats 400000 in
theorem ok_last_index (b5 : mg "len" = none) (Fn : DfN F mg "last_index" ["row", "width"] s_last_index) : Dt P w F mg base "last_index" ["row", "width"] 1 spLast := by
  refine dt_ok Fn sc_last_index (fun ds σ Q E h => ?_) (fun ds σ Q E Wx h => ?_)
  · obtain ⟨r, w, rfl, _⟩ := h
    rfl
  · obtain ⟨r, w, rfl, hr, q⟩ := h
    exact tk_ret (tv_bin (tv_bin (tv_callB (by rfl) (by walk_at "as") (by walk_at "bt") (by walk_at "va" : TVA _ _ _ _ [.str r]) (pf_lenS (by omega))) (by walk_at "v" : TV _ _ _ _ (.int (w : Int))) po_subI) (by walk_at "v" : TV _ _ _ _ (.int 1)) po_addI) q
set_option maxHeartbeats 400000 in
theorem ok_piece_in (Fn : DfN F mg "piece_in" ["row", "width", "index"] s_piece_in) : Dt P w F mg base "piece_in" ["row", "width", "index"] 1 spPiece := by
  refine dt_ok Fn sc_piece_in (fun ds σ Q E h => ?_) (fun ds σ Q E Wx h => ?_)
  · obtain ⟨r, w, i, rfl, _⟩ := h
    rfl
  · obtain ⟨r, w, i, rfl, hr, w1, w2, hi, q⟩ := h
    exact tk_ret (TV.castS (tv_slice (by walk_at "v" : TV _ _ _ _ (.str r)) (to_some (by walk_at "v" : TV _ _ _ _ (.int (i : Int)))) (to_some (tv_bin (tv_bin (by walk_at "v" : TV _ _ _ _ (.int (i : Int))) (by walk_at "v" : TV _ _ _ _ (.int (w : Int))) po_addI) (by walk_at "v" : TV _ _ _ _ (.int 1)) po_subI)) (pl_str (by omega))) (by rw [Z.cut_two (i := i) (j := i + (w - 1)) rfl (by omega)]; unfold pc; congr 1; omega)) q
end
end Y

/-! ### the row after a move, by its windows -/
namespace Y
open PySem PySem.Spec L2 SX Z
def la (x : List Nat) : Nat := x.getLastD 0
theorem la_at {x : List Nat} (h : 1 ≤ x.length) : x[x.length - 1]? = some (la x) := by
  unfold la
  rw [List.getLastD_eq_getLast?, List.getLast?_eq_getElem?, List.getElem?_eq_getElem (by omega)]
  rfl
theorem la_win {r : List Nat} {w i : Nat} (h : i + w ≤ r.length) (hw : 1 ≤ w) : (r.drop (w - 1))[i]? = some (la ((r.drop i).take w)) := by
  have hl : ((r.drop i).take w).length = w := by rw [List.length_take, List.length_drop]; omega
  rw [← la_at (by omega), hl, List.getElem?_take, if_pos (by omega), List.getElem?_drop, List.getElem?_drop, Nat.add_comm]
theorem la_winL {r : List Nat} {w : Nat} (hw : 1 ≤ w) (h : w ≤ r.length) : (winL r w).map la = r.drop (w - 1) := by
  refine List.ext_getElem? fun i => ?_
  unfold winL
  rw [List.map_map, List.getElem?_map]
  rcases Nat.lt_or_ge i (r.length + 1 - w) with z | z
  · rw [List.getElem?_range z, la_win (by omega) hw]
    rfl
  · rw [List.getElem?_eq_none (by rw [List.length_range]; exact z), List.getElem?_eq_none (by rw [List.length_drop]; omega)]
    rfl
theorem win_get {r : List Nat} {w i : Nat} (h : i < r.length + 1 - w) : (winL r w)[i]? = some ((r.drop i).take w) := by
  unfold winL
  rw [List.getElem?_map, List.getElem?_range h]
  rfl
/-- the first window without its last letter is a piece -/
theorem head_la {r : List Nat} {w i : Nat} (h : i + w ≤ r.length) (hw : 1 ≤ w) : (r.drop i).take w = pc r w i ++ [la ((r.drop i).take w)] := by
  have hl : ((r.drop i).take w).length = w := by rw [List.length_take, List.length_drop]; omega
  have hne : (r.drop i).take w ≠ [] := fun z => by rw [z] at hl; simp at hl; omega
  have e : la ((r.drop i).take w) = ((r.drop i).take w).getLast hne := by
    unfold la
    rw [List.getLastD_eq_getLast?, List.getLast?_eq_some_getLast hne]
    rfl
  rw [e]
  have := (List.dropLast_concat_getLast hne).symm
  rw [List.dropLast_eq_take, hl, List.take_take, Nat.min_eq_left (by omega)] at this
  exact this
def goW (W : List (List Nat)) : Mv → List (List Nat)
  | .sw a b c d => W.take a ++ (W.drop c).take (d - c) ++ (W.drop b).take (c - b) ++ (W.drop a).take (b - a) ++ W.drop d
  | .tn t => W.drop t ++ W.take t
theorem goW_head {r : List Nat} {w : Nat} {m : Mv} (h : mvOk r w m) (hw : 1 ≤ w) : ∃ i, i + w ≤ r.length ∧ (goW (winL r w) m)[0]? = some ((r.drop i).take w) ∧ pc r w i ++ ((goW (winL r w) m).map la) = goM r w m := by
  cases m with
  | tn t =>
    obtain ⟨h1, h2, h3⟩ := h
    refine ⟨t, h2, ?_, ?_⟩
    · show ((winL r w).drop t ++ _)[0]? = _
      rw [List.getElem?_append_left (by rw [List.length_drop, win_len]; omega), List.getElem?_drop, Nat.add_zero, win_get (by omega)]
    · show pc r w t ++ (((winL r w).drop t ++ (winL r w).take t).map la) = r.drop t ++ (r.drop (w - 1)).take t
      rw [List.map_append, List.map_drop, List.map_take, la_winL hw (by omega), ← List.append_assoc, List.drop_drop]
      congr 1
      unfold pc
      have e := List.take_append_drop (w - 1) (r.drop t)
      rw [List.drop_drop] at e
      rw [Nat.add_comm (w - 1) t]
      exact e
  | sw a b c d =>
    obtain ⟨h1, h2, h3, h4, h5, h6⟩ := h
    have tail : ((goW (winL r w) (.sw a b c d)).map la) = (r.drop (w - 1)).take a ++ (r.drop (c + (w - 1))).take (d - c) ++ (r.drop (b + (w - 1))).take (c - b) ++ (r.drop (a + (w - 1))).take (b - a) ++ r.drop (d + (w - 1)) := by
      show (((winL r w).take a ++ ((winL r w).drop c).take (d - c) ++ ((winL r w).drop b).take (c - b) ++ ((winL r w).drop a).take (b - a) ++ (winL r w).drop d).map la) = _
      simp only [List.map_append, List.map_take, List.map_drop, la_winL hw (by omega : w ≤ r.length), List.drop_drop]
      rw [Nat.add_comm (w - 1) c, Nat.add_comm (w - 1) b, Nat.add_comm (w - 1) a, Nat.add_comm (w - 1) d]
    have front : pc r w 0 ++ (r.drop (w - 1)).take a = r.take (a + (w - 1)) := by
      unfold pc
      rw [List.drop_zero, Nat.add_comm a, List.take_add]
    have go : ∀ i, pc r w i = pc r w 0 → pc r w i ++ ((goW (winL r w) (.sw a b c d)).map la) = goM r w (.sw a b c d) := fun i hi => by
      rw [hi, tail]
      show _ = r.take (a + (w - 1)) ++ (r.drop (c + (w - 1))).take (d - c) ++ (r.drop (b + (w - 1))).take (c - b) ++ (r.drop (a + (w - 1))).take (b - a) ++ r.drop (d + (w - 1))
      rw [← front]
      simp only [List.append_assoc]
    rcases Nat.eq_zero_or_pos a with rfl | ha
    · refine ⟨c, by omega, ?_, go c h5.symm⟩
      show ((winL r w).take 0 ++ ((winL r w).drop c).take (d - c) ++ _ ++ _ ++ _)[0]? = _
      have hl : (((winL r w).drop c).take (d - c)).length = d - c := by rw [List.length_take, List.length_drop, win_len]; omega
      rw [List.take_zero, List.nil_append, List.getElem?_append_left (by simp only [List.length_append]; omega), List.getElem?_append_left (by simp only [List.length_append]; omega), List.getElem?_append_left (by omega), List.getElem?_take, if_pos (by omega), List.getElem?_drop, Nat.add_zero, win_get (by omega)]
    · refine ⟨0, by omega, ?_, go 0 rfl⟩
      show ((winL r w).take a ++ _ ++ _ ++ _ ++ _)[0]? = _
      have hl : ((winL r w).take a).length = a := by rw [List.length_take, win_len]; omega
      rw [List.getElem?_append_left (by simp only [List.length_append]; omega), List.getElem?_append_left (by simp only [List.length_append]; omega), List.getElem?_append_left (by simp only [List.length_append]; omega), List.getElem?_append_left (by omega), List.getElem?_take, if_pos ha, win_get (by omega)]
/-- the plain law -/
theorem goW_row {r : List Nat} {w : Nat} {m : Mv} (h : mvOk r w m) (hw : 1 ≤ w) : ∃ x xs, goW (winL r w) m = x :: xs ∧ x ++ xs.map la = goM r w m := by
  obtain ⟨i, hi, h0, e⟩ := goW_head h hw
  cases hg : goW (winL r w) m with
  | nil => rw [hg] at h0; cases h0
  | cons x xs =>
    refine ⟨x, xs, rfl, ?_⟩
    rw [hg] at h0 e
    have hx : x = (r.drop i).take w := Option.some.inj h0
    rw [← e, hx, List.map_cons]
    conv => lhs; rw [head_la hi hw]
    rw [List.append_assoc]
    rfl
theorem goW_mem {W : List (List Nat)} {m : Mv} {x : List Nat} (h : x ∈ goW W m) : x ∈ W := by
  cases m with
  | sw a b c d =>
    simp only [goW, List.mem_append] at h
    rcases h with (((h | h) | h) | h) | h
    · exact List.mem_of_mem_take h
    · exact List.mem_of_mem_drop (List.mem_of_mem_take h)
    · exact List.mem_of_mem_drop (List.mem_of_mem_take h)
    · exact List.mem_of_mem_drop (List.mem_of_mem_take h)
    · exact List.mem_of_mem_drop h
  | tn t =>
    simp only [goW, List.mem_append] at h
    rcases h with h | h
    · exact List.mem_of_mem_drop h
    · exact List.mem_of_mem_take h
theorem win_lenw {r : List Nat} {w : Nat} {x : List Nat} (h : x ∈ winL r w) : x.length = w := by
  obtain ⟨i, hi, rfl⟩ := List.mem_map.mp h
  rw [List.mem_range] at hi
  rw [List.length_take, List.length_drop]
  omega
theorem at_la {x : List Nat} (h : 1 ≤ x.length) : atI x (-1) = some (la x) := by
  have e : ixN x.length (-1) = some (x.length - 1) := by
    unfold ixN
    have a : ¬ (0 : Int) ≤ -1 := by decide
    simp [a]
    omega
  unfold atI
  rw [e]
  show x[x.length - 1]? = _
  unfold la
  rw [List.getLastD_eq_getLast?, List.getLast?_eq_getElem?, List.getElem?_eq_getElem (by omega)]
  rfl
end Y

/-! ### the windows of the row after a move -/
namespace Y
open PySem PySem.Spec L2 SX Z
/-- a way through windows, from piece to piece -/
def PathW (w : Nat) : List Nat → List (List Nat) → List Nat → Prop
  | p, [], q => p = q
  | p, x :: W, q => p = x.take (w - 1) ∧ PathW w (x.drop 1) W q
theorem path_app {w : Nat} : ∀ {A B : List (List Nat)} {p q s : List Nat}, PathW w p A q → PathW w q B s → PathW w p (A ++ B) s
  | [], _, _, _, _, h, g => by cases h; exact g
  | _ :: A, _, _, _, _, ⟨h1, h2⟩, g => ⟨h1, path_app (A := A) h2 g⟩
theorem path_seg {r : List Nat} {w : Nat} (hw : 1 ≤ w) : ∀ (n i : Nat), i + n + w ≤ r.length + 1 → PathW w (pc r w i) (((winL r w).drop i).take n) (pc r w (i + n))
  | 0, i, _ => rfl
  | n + 1, i, h => by
    have e := win_get (r := r) (w := w) (i := i) (by omega)
    obtain ⟨hi, e1⟩ := List.getElem?_eq_some_iff.mp e
    rw [List.drop_eq_getElem_cons hi, List.take_succ_cons, e1]
    refine ⟨by unfold pc; rw [List.take_take, Nat.min_eq_left (show w - 1 ≤ w by omega)], ?_⟩
    have ih := path_seg (r := r) (w := w) hw n (i + 1) (by omega)
    have e2 : ((r.drop i).take w).drop 1 = pc r w (i + 1) := by
      unfold pc
      rw [List.drop_take, List.drop_drop]
    rw [e2, show i + (n + 1) = i + 1 + n by omega]
    exact ih
theorem path_goW {r : List Nat} {w : Nat} {m : Mv} (h : mvOk r w m) (hw : 1 ≤ w) : ∃ p q, PathW w p (goW (winL r w) m) q := by
  cases m with
  | tn t =>
    obtain ⟨h1, h2, h3⟩ := h
    refine ⟨pc r w t, pc r w t, ?_⟩
    have a := path_seg (r := r) hw (r.length + 1 - w - t) t (by omega)
    have b := path_seg (r := r) hw t 0 (by omega)
    rw [show t + (r.length + 1 - w - t) = r.length + 1 - w by omega, ← h3, List.take_of_length_le (by rw [List.length_drop, win_len]; omega)] at a
    rw [List.drop_zero, Nat.zero_add] at b
    exact path_app a b
  | sw a b c d =>
    obtain ⟨h1, h2, h3, h4, h5, h6⟩ := h
    refine ⟨pc r w 0, pc r w (r.length + 1 - w), ?_⟩
    have p1 := path_seg (r := r) hw a 0 (by omega)
    have p2 := path_seg (r := r) hw (d - c) c (by omega)
    have p3 := path_seg (r := r) hw (c - b) b (by omega)
    have p4 := path_seg (r := r) hw (b - a) a (by omega)
    have p5 := path_seg (r := r) hw (r.length + 1 - w - d) d (by omega)
    rw [List.drop_zero, Nat.zero_add, h5] at p1
    rw [show c + (d - c) = d by omega, ← h6] at p2
    rw [show b + (c - b) = c by omega, ← h5] at p3
    rw [show a + (b - a) = b by omega, h6] at p4
    rw [show d + (r.length + 1 - w - d) = r.length + 1 - w by omega, List.take_of_length_le (by rw [List.length_drop, win_len]; omega)] at p5
    exact path_app (path_app (path_app (path_app p1 p2) p3) p4) p5
end Y

/-! ### moves that are drawn -/
namespace Y
open PySem PySem.Spec L2 SX Z
def pcs (r : List Nat) (w : Nat) : List (List Nat) := (List.range (r.length + 2 - w)).map fun i => pc r w i
theorem pcs_len (r : List Nat) (w : Nat) : (pcs r w).length = r.length + 2 - w := by unfold pcs; simp
theorem pcs_get {r : List Nat} {w i : Nat} (h : i < r.length + 2 - w) : (pcs r w)[i]? = some (pc r w i) := by
  unfold pcs
  rw [List.getElem?_map, List.getElem?_range h]
  rfl
theorem at_pcs {r : List Nat} {w i : Nat} (h : i < r.length + 2 - w) : atI ((pcs r w).map DT.str) (i : Int) = some (.str (pc r w i)) := Z.at_nat (j := i) rfl (by rw [List.getElem?_map, pcs_get h]; rfl)
theorem rng2 (a m : Nat) : (List.range ((m : Int) - ((a : Int) + 1)).toNat).map (fun i : Nat => DT.int ((a : Int) + 1 + (i : Int))) = (List.range (m - (a + 1))).map fun i : Nat => DT.int ((a + 1 + i : Nat) : Int) := by
  have e : ((m : Int) - ((a : Int) + 1)).toNat = m - (a + 1) := by omega
  rw [e]
  refine List.map_congr_left fun i _ => ?_
  have e2 : (a : Int) + 1 + (i : Int) = ((a + 1 + i : Nat) : Int) := by omega
  rw [e2]
theorem shi {α : Type} (l : List α) (h : α → Int) : Sh 60 (.lst (l.map fun i => DT.int (h i))) := fun x hx => by
  obtain ⟨i, _, rfl⟩ := List.mem_map.mp hx
  exact trivial
theorem ne_nil_of {α β : Type} {l : List α} {f : α → β} (h : (!(l.map f).isEmpty) = true) : 1 ≤ l.length := by
  cases l with
  | nil => cases h
  | cons _ _ => simp
theorem pick_at {l : List Nat} {h : Nat → Int} {k : Nat} (hk : k < l.length) : ∃ i ∈ l, atI (l.map fun i => DT.int (h i)) (k : Int) = some (.int (h i)) := by
  refine ⟨l[k], List.getElem_mem hk, Z.at_nat (j := k) rfl ?_⟩
  rw [List.getElem?_map, List.getElem?_eq_getElem hk]
  rfl
end Y

/-! ### windows, tally, chain and the row after a move, by hand (family B) -/
namespace Y
open PySem PySem.Spec L2 SX Z
def inR (r : List Nat) (w : Nat) : Mv → Prop
  | .sw a b c d => a < b ∧ b ≤ c ∧ c < d ∧ d + w ≤ r.length + 1
  | .tn t => 1 ≤ t ∧ t + w ≤ r.length
def pcB (r : List Nat) (w : Nat) : Mv → Bool
  | .sw a b c d => decide (pc r w a = pc r w c) && decide (pc r w b = pc r w d)
  | .tn _ => decide (pc r w 0 = pc r w (r.length + 1 - w))
theorem mvOk_of {r : List Nat} {w : Nat} {m : Mv} (h : inR r w m) (p : pcB r w m = true) : mvOk r w m := by
  cases m with
  | sw a b c d =>
    obtain ⟨h1, h2, h3, h4⟩ := h
    unfold pcB at p
    rw [Bool.and_eq_true] at p
    exact ⟨h1, h2, h3, h4, of_decide_eq_true p.1, of_decide_eq_true p.2⟩
  | tn t => exact ⟨h.1, h.2, of_decide_eq_true p⟩
def aftB (r : List Nat) (w : Nat) (m : Mv) : DT := if pcB r w m then .str (goM r w m) else .non
theorem path_zip {w : Nat} : ∀ {W : List (List Nat)} {x p q : List Nat}, PathW w p (x :: W) q → ∀ y ∈ (x :: W).zip W, y.1.drop 1 = y.2.take (w - 1)
  | [], _, _, _, _, _, hy => by simp at hy
  | z :: W, x, p, q, ⟨h1, h2⟩, y, hy => by
    rw [List.zip_cons_cons] at hy
    rcases List.mem_cons.mp hy with rfl | hy
    · exact h2.1
    · exact path_zip (W := W) (x := z) h2 y hy
def spWinsB : TSpec := fun ds σ Q E => ∃ (r : List Nat) (w : Nat), ds = [.str r, .int (w : Int)] ∧ r.length ≤ 200 ∧ w ≤ 200 ∧ Q (.lst ((winL r w).map DT.str)) σ
def spChainB : TSpec := fun ds σ Q E => ∃ (x : List Nat) (xs : List (List Nat)) (p q : List Nat) (w : Nat), ds = [.lst ((x :: xs).map DT.str), .int (w : Int)] ∧ 1 ≤ w ∧ w ≤ 200 ∧ xs.length ≤ 200 ∧ PathW w p (x :: xs) q ∧ (∀ y ∈ x :: xs, y.length = w) ∧ Q (.str (x ++ xs.map la)) σ
section
variable {P : Program} {w : World} {F : PySem.W.Frag} {mg : Str → Option Value} {base : Heap}
set_option maxHeartbeats 400000 in
theorem ok_winsB (b1 : mg "range" = none) (b2 : mg "len" = none) (Fn : DfN F mg "_law_windows" ["_law_letters_here", "_law_wide"] s_law_windows) : Dt P w F mg base "_law_windows" ["_law_letters_here", "_law_wide"] 1 spWinsB := by
  refine dt_ok Fn sc_law_windows (fun ds σ Q E h => ?_) (fun ds σ Q E Wx h => ?_)
  · obtain ⟨r, w, rfl, _⟩ := h
    rfl
  · obtain ⟨r, w, rfl, hr, hw, q⟩ := h
    have e1 : ((r.length : Int) - w + 1).toNat = r.length + 1 - w := by omega
    have e2 : ((List.range (((r.length : Int) - w + 1).toNat)).map fun i => DT.str ((r.drop i).take w)) = (winL r w).map DT.str := by rw [e1]; unfold winL; rw [List.map_map]; rfl
    refine tk_ret (TV.castL (tv_lcM (α := Nat) (l := List.range (((r.length : Int) - w + 1).toNat)) (g := fun i => .int (i : Int)) (f := fun i => .str ((r.drop i).take w)) (own := [("_law_at", 2)]) (t := .nm 2) (by walk_at "tgt") (by walk_at "blk") (by decide) (⟨fun q => ti_range1 (by rfl) (by walk_at "as") (te_v (by walk_at "v") ⟨_, rfl, by omega, q⟩)⟩) (by rw [List.length_range]; omega) (fun _ _ => rfl)
      (fun i _ => TV.castS (by walk_at "v") ((Z.cut_two (i := i) (j := i + w) rfl (by omega)).trans (by rw [Nat.add_sub_cancel_left])))) e2) q
set_option maxHeartbeats 1000000 in
theorem ok_chainB (sm : ∃ ob, base.get? sysModules = some ob) (b1 : mg "zip" = none) (Fn : DfN F mg "_law_chain" ["_law_some", "_law_wide"] s_law_chain) : Dt P w F mg base "_law_chain" ["_law_some", "_law_wide"] 1 spChainB := by
  refine dt_ok Fn sc_law_chain (fun ds σ Q E h => ?_) (fun ds σ Q E Wx h => ?_)
  · obtain ⟨x, xs, p, q', w, rfl, _⟩ := h
    rfl
  · obtain ⟨x, xs, p, q', w, rfl, w1, w2, hl, hp, hx, q⟩ := h
    have cut1 : cutT ((x :: xs).map DT.str) (some 1) none = xs.map DT.str := (cut_from (i := 1) (x := 1) rfl).trans rfl
    have zl : ((x :: xs).zip xs).length ≤ 200 := by rw [List.length_zip]; omega
    have ez : ((((x :: xs).map DT.str).zip (xs.map DT.str)).map fun y => DT.tup [y.1, y.2]) = ((x :: xs).zip xs).map fun y => DT.tup [.str y.1, .str y.2] := by
      rw [List.zip_map, List.map_map]
      rfl
    have fe : (((x :: xs).zip xs).filter fun _ => false) = [] := by rw [List.filter_eq_nil_iff]; intro _ _; decide
    refine tk_ifF (TB.cast (tb_cmp (TV.castL (j := []) (tv_lc (α := List Nat × List Nat) (l := (x :: xs).zip xs) (g := fun y => .tup [.str y.1, .str y.2]) (f := fun _ => .int 1) (tt := fun _ => false) (own := [("_law_one", 2), ("_law_other", 3)]) (t := .tp [2, 3]) (by walk_at "tgs") (by walk_at "blk") (by decide)
      ⟨fun q => ti_zip (by rfl) (by walk_at "as") (te_v (by walk_at "v" : TV _ _ _ _ (.lst ((x :: xs).map DT.str))) (te_v (TV.castL (tv_slice (by walk_at "v" : TV _ _ _ _ (.lst ((x :: xs).map DT.str))) (to_some (by walk_at "v" : TV _ _ _ _ (.int 1))) to_none (pl_lst lsT_l)) cut1) ⟨_, _, rfl, rfl, by rw [ez]; exact q⟩))⟩ (by omega) (fun _ _ => rfl)
      (fun y hy => by
        have m1 := hx y.1 (List.of_mem_zip hy).1
        have m2 := hx y.2 (List.mem_cons_of_mem _ (List.of_mem_zip hy).2)
        have pz := path_zip hp y hy
        exact ⟨TB.cast (tb_cmp (TV.castS (tv_slice (by walk_at "v" : TV _ _ _ _ (.str y.1)) (to_some (by walk_at "v" : TV _ _ _ _ (.int 1))) to_none (pl_str (by omega))) (Z.cut_from (i := 1) rfl)) (TV.castS (tv_slice (by walk_at "v" : TV _ _ _ _ (.str y.2)) to_none (to_some (tv_bin (by walk_at "v" : TV _ _ _ _ (.int (w : Int))) (by walk_at "v" : TV _ _ _ _ (.int 1)) po_subI)) (pl_str (by omega))) (Z.cut_to (j := w - 1) (by omega))) po_neS (by rfl)) (by rw [pz]; simp), fun z => absurd z (by decide)⟩)) (by rw [fe]; rfl)) (by walk_at "v" : TV _ _ _ _ (.lst [])) (po_neNil sm (fun _ h => nomatch h : Sh 60 (.lst []))) (by rfl)) (by rfl)) (tk_nil ?_)
    exact tk_ret (tv_bin (tv_sub (d := .str x) (by walk_at "v" : TV _ _ _ _ (.lst ((x :: xs).map DT.str))) (by walk_at "v" : TV _ _ _ _ (.int 0)) (pi_lst lsT_l (Z.at_nat (j := 0) rfl rfl))) (tv_meth PySem.F.plainAttrs_str PySem.F.slot_str_join rfl (by walk_at "v" : TV _ _ _ _ (.str (sOf ""))) ty_str (tva_cons (TV.castL (j := (xs.map la).map fun k => DT.str [k]) (tv_lcM (α := List Nat) (l := xs) (g := DT.str) (f := fun k => .str [la k]) (own := [("_law_piece", 4)]) (t := .nm 4) (by walk_at "tgt") (by walk_at "blk") (by decide) (tvi_lst (TV.castL (tv_slice (by walk_at "v" : TV _ _ _ _ (.lst ((x :: xs).map DT.str))) (to_some (by walk_at "v" : TV _ _ _ _ (.int 1))) to_none (pl_lst lsT_l)) cut1)) (by omega) (fun _ _ => rfl)
        (fun k hk => tv_sub (by walk_at "v" : TV _ _ _ _ (.str k)) (tv_un (tv_int (i := 1)) po_negI) (pi_str (by rw [hx k (List.mem_cons_of_mem _ hk)]; omega) (at_la (by rw [hx k (List.mem_cons_of_mem _ hk)]; omega))))) (by rw [List.map_map]; rfl)) tva_nil) (pm_ones (xs.map la) (by rw [List.length_map]; omega))) (po_addS (by rw [hx x (List.mem_cons_self ..), List.length_map]; omega))) q
end
end Y

/-! ### a drawn swap, all moves (family B) -/
namespace Y
open PySem PySem.Spec L2 SX Z
def spSwapB : TSpec := fun ds σ Q E => ∃ (p : Addr) (r : List Nat) (w N : Nat) (xs : List DT), ds = [.ref p, .str r, .int (w : Int)] ∧ r.length ≤ 200 ∧ 1 ≤ w ∧ w ≤ 12 ∧ w ≤ r.length ∧ σ p = some (.lst xs) ∧ bagOk N xs ∧ N < 2 ^ 37 ∧ ∀ y xs', (y = .non ∨ ∃ a b c d, y = mvT (.sw a b c d) ∧ mvOk r w (.sw a b c d)) → bagOk (N + 30) xs' → Q y (su σ p (.lst xs'))
section
variable {P : Program} {w : World} {F : PySem.W.Frag} {mg : Str → Option Value} {base : Heap}
set_option maxHeartbeats 2000000 in
theorem ok_swapB (sm : ∃ ob, base.get? sysModules = some ob) (L0 : Dt P w F mg base "_law_draw" ["_law_bag_here", "_law_bound"] 2 spDrawB) (b1 : mg "len" = none) (b2 : mg "range" = none) (Fn : DfN F mg "_law_swap" ["_law_bag_here", "_law_letters_here", "_law_wide"] s_law_swap) : Dt P w F mg base "_law_swap" ["_law_bag_here", "_law_letters_here", "_law_wide"] 3 spSwapB := by
  refine dt_ok Fn sc_law_swap (fun ds σ Q E h => ?_) (fun ds σ Q E Wx h => ?_)
  · obtain ⟨p, r, w, N, xs, rfl, _⟩ := h
    rfl
  · obtain ⟨p, r, w, N, xs, rfl, l2, w1, w2, wl, hσ, ok, hN, q⟩ := h
    rw [← su_self hσ]
    have q : ∀ y xs', (y = .non ∨ ∃ a b c d, y = mvT (.sw a b c d) ∧ mvOk r w (.sw a b c d)) → bagOk (N + 30) xs' → Q y (su σ p (.lst xs')) := q
    obtain ⟨m, hm⟩ : ∃ m : Nat, m + w = r.length + 1 := ⟨r.length + 1 - w, by omega⟩
    have pl := pcs_len r w
    have gp : ∀ {ct : Ct} {ρ : EnvT} {e x : Expr} {p1 : Pos} {σ2 : Sg} (i : Nat), i ≤ m → (PlainIx x) → TV ct e ρ σ2 (.lst ((pcs r w).map DT.str)) → TV ct x ρ σ2 (.int (i : Int)) → TV ct (.Subscript e x p1) ρ σ2 (.str (pc r w i)) := fun i hi hp h1 h2 => tv_sub h1 h2 (pi_lst lsT_l (at_pcs (by omega))) hp
    refine tk_setV (i := 3) (by walk_at "sto") (TV.castI (j := (m : Int)) (tv_bin (tv_bin (tv_callB (by rfl) (by walk_at "as") (by walk_at "bt") (by walk_at "va" : TVA _ _ _ _ [.str r]) (pf_lenS (by omega))) (by walk_at "v" : TV _ _ _ _ (.int (w : Int))) po_subI) (by walk_at "v" : TV _ _ _ _ (.int 1)) po_addI) (by omega)) ?_
    refine tk_cons (ts_setLcC (i := 4) (by walk_at "sto") (by rfl) ((tv_lcM (α := Nat) (l := List.range (r.length + 2 - w)) (g := fun i => .int (i : Int)) (f := fun i => .str (pc r w i)) (own := [("_law_at", 13)]) (t := .nm 13) (by walk_at "tgt") (by walk_at "blk") (by decide) ⟨fun q => ti_range1 (by rfl) (by walk_at "as") (te_v (TV.castI (j := ((r.length + 2 - w : Nat) : Int)) (tv_bin (by walk_at "v" : TV _ _ _ _ (.int (m : Int))) (by walk_at "v" : TV _ _ _ _ (.int 1)) po_addI) (by omega)) ⟨_, rfl, by omega, by rw [Int.toNat_natCast]; exact q⟩)⟩ (by rw [List.length_range]; omega) (fun _ _ => rfl)
      (fun i hi => by
        have := List.mem_range.mp hi
        exact TV.castS (tv_slice (by walk_at "v" : TV _ _ _ _ (.str r)) (to_some (by walk_at "v" : TV _ _ _ _ (.int (i : Int)))) (to_some (tv_bin (tv_bin (by walk_at "v" : TV _ _ _ _ (.int (i : Int))) (by walk_at "v" : TV _ _ _ _ (.int (w : Int))) po_addI) (by walk_at "v" : TV _ _ _ _ (.int 1)) po_subI)) (pl_str (by omega))) (by rw [Z.cut_two (i := i) (j := i + (w - 1)) rfl (by omega)]; unfold pc; congr 1; omega))).to ?_))
    have ew : (List.range (r.length + 2 - w)).map (fun i => DT.str (pc r w i)) = (pcs r w).map DT.str := by unfold pcs; rw [List.map_map]; rfl
    rw [ew]
    refine tk_cons (ts_for (t := .nm 5) (by walk_at "tgt") (ti_range1 (by rfl) (by walk_at "as") (te_v (by walk_at "v" : TV _ _ _ _ (.int 6)) ⟨_, rfl, by decide, ?_⟩)))
    refine ⟨fun i ρ1 σ2 => ∃ (xs2 : List DT) (a5 a6 a7 a8 a9 a10 a11 a12 : Option DT), σ2 = su σ p (.lst xs2) ∧ bagOk (N + 4 * i) xs2 ∧ ρ1 = [some (.ref p), some (.str r), some (.int (w : Int)), some (.int (m : Int)), some (.lst ((pcs r w).map DT.str)), a5, a6, a7, a8, a9, a10, a11, a12, none], ⟨xs, none, none, none, none, none, none, none, none, rfl, ok, rfl⟩, ?_, ?_⟩
    · rintro i d ρ1 σ2 hd ⟨xs2, a5, a6, a7, a8, a9, a10, a11, a12, rfl, ok2, rfl⟩
      rw [List.getElem?_map] at hd
      obtain ⟨j, hj, rfl⟩ := Option.map_eq_some_iff.mp hd
      obtain ⟨hi1, hi2⟩ := List.getElem?_eq_some_iff.mp hj
      have hi3 : i < 6 := by rw [List.length_range] at hi1; exact hi1
      refine ⟨_, rfl, ?_⟩
      refine tk_set (i := 6) (by walk_at "sto") (te_drawB (m := (m : Int)) L0 (by walk_at "k") (by rfl) (by walk_at "va") ok2 (by omega) (by omega) (by omega) fun d xs3 d0 d1 ok3 => ?_)
      obtain ⟨a, rfl⟩ := Int.eq_ofNat_of_zero_le d0
      have ha : a < m := by omega
      refine tk_setLcV (i := 7) (α := Nat) (l := List.range (m - (a + 1))) (g := fun i => .int ((a + 1 + i : Nat) : Int)) (f := fun i => .int ((a + 1 + i : Nat) : Int)) (tt := fun i => decide (pc r w (a + 1 + i) = pc r w a)) (own := [("_law_at", 13)]) (t := .nm 13) (by rfl) (by rfl) (by rfl) (by decide +kernel) (by exact Nat.le_of_ble_eq_true rfl) (by walk_at "tgt") (by walk_at "blk") (by decide) ⟨fun q => ti_range2 (by rfl) (by walk_at "as") (te_v (tv_bin (by walk_at "v" : TV _ _ _ _ (.int (a : Int))) (by walk_at "v" : TV _ _ _ _ (.int 1)) po_addI) (te_v (by walk_at "v" : TV _ _ _ _ (.int (m : Int))) ⟨_, _, rfl, rfl, ⟨by omega, by omega, by omega, by omega⟩, by rw [rng2]; exact q⟩))⟩ (by rw [List.length_range]; omega) (fun _ _ => rfl)
        (fun i hi => by
          have hi := List.mem_range.mp hi
          exact ⟨tb_cmp (gp (a + 1 + i) (by omega) (fun _ _ => rfl) (by walk_at "v") (by walk_at "v")) (gp a (by omega) (fun _ _ => rfl) (by walk_at "v") (by walk_at "v")) po_eqS (by rfl), fun _ => by walk_at "v"⟩) ?_
      refine tk_if (tb_cmp (by walk_at "v" : TV _ _ _ _ (.lst (((List.range (m - (a + 1))).filter fun i => decide (pc r w (a + 1 + i) = pc r w a)).map fun i => DT.int ((a + 1 + i : Nat) : Int)))) (by walk_at "v" : TV _ _ _ _ (.lst [])) (po_neNil sm (shi _ _)) (by rfl)) (fun z => ?_) (fun z => tk_nil (tk_nil ⟨_, _, _, _, _, _, _, _, _, rfl, bag_le ok3 (by omega), rfl⟩))
      have z1 := ne_nil_of z
      generalize hS1 : ((List.range (m - (a + 1))).filter fun i => decide (pc r w (a + 1 + i) = pc r w a)) = S1 at *
      have s1l : S1.length ≤ 200 := by
        rw [← hS1]
        have := List.length_filter_le (fun i => decide (pc r w (a + 1 + i) = pc r w a)) (List.range (m - (a + 1)))
        rw [List.length_range] at this
        omega
      refine tk_set (i := 8) (by walk_at "sto") (te_sub (te_v (by walk_at "v" : TV _ _ _ _ (.lst (S1.map fun i => DT.int ((a + 1 + i : Nat) : Int)))) (te_drawB (m := ((S1.map fun i => DT.int ((a + 1 + i : Nat) : Int)).length : Int)) L0 (by walk_at "k") (by rfl) (tva_cons (by walk_at "v" : TV _ _ _ _ (.ref p)) (tva_cons (tv_callB (by rfl) (by walk_at "as") (by walk_at "bt") (by walk_at "va" : TVA _ _ _ _ [.lst (S1.map fun i => DT.int ((a + 1 + i : Nat) : Int))]) (pf_lenL lsT_l)) tva_nil)) ok3 (by omega) (by rw [List.length_map]; omega) (by rw [List.length_map]; omega) fun d2 xs4 e0 e1 ok4 => ?_)) (fun _ _ => rfl))
      obtain ⟨k2, rfl⟩ := Int.eq_ofNat_of_zero_le e0
      obtain ⟨i1, hi1', at1⟩ := pick_at (l := S1) (h := fun i => ((a + 1 + i : Nat) : Int)) (k := k2) (by rw [List.length_map] at e1; omega)
      refine ⟨_, pi_lst lsT_l at1, ?_⟩
      rw [← hS1, List.mem_filter, List.mem_range] at hi1'
      obtain ⟨c1, c2⟩ := hi1'
      have c2 := of_decide_eq_true c2
      obtain ⟨c, hc⟩ : ∃ c, c = a + 1 + i1 := ⟨_, rfl⟩
      rw [← hc] at c2 ⊢
      have hc2 : c < m := by omega
      refine tk_setV (i := 9) (by walk_at "sto") (TV.castL (j := ((pcs r w).drop (c + 1)).map DT.str) (tv_slice (by walk_at "v" : TV _ _ _ _ (.lst ((pcs r w).map DT.str))) (to_some (tv_bin (by walk_at "v" : TV _ _ _ _ (.int (c : Int))) (by walk_at "v" : TV _ _ _ _ (.int 1)) po_addI)) to_none (pl_lst lsT_l)) (by rw [cut_from (i := c + 1) (by omega), List.map_drop])) ?_
      refine tk_setLcV (i := 10) (α := Nat) (l := List.range (c + 1 - (a + 1))) (g := fun i => .int ((a + 1 + i : Nat) : Int)) (f := fun i => .int ((a + 1 + i : Nat) : Int)) (tt := fun i => decide (pc r w (a + 1 + i) ∈ (pcs r w).drop (c + 1))) (own := [("_law_at", 13)]) (t := .nm 13) (by rfl) (by rfl) (by rfl) (by decide +kernel) (by exact Nat.le_of_ble_eq_true rfl) (by walk_at "tgt") (by walk_at "blk") (by decide) ⟨fun q => ti_range2 (by rfl) (by walk_at "as") (te_v (tv_bin (by walk_at "v" : TV _ _ _ _ (.int (a : Int))) (by walk_at "v" : TV _ _ _ _ (.int 1)) po_addI) (te_v (TV.castI (j := ((c + 1 : Nat) : Int)) (tv_bin (by walk_at "v" : TV _ _ _ _ (.int (c : Int))) (by walk_at "v" : TV _ _ _ _ (.int 1)) po_addI) (by omega)) ⟨_, _, rfl, rfl, ⟨by omega, by omega, by omega, by omega⟩, by rw [rng2]; exact q⟩))⟩ (by rw [List.length_range]; omega) (fun _ _ => rfl)
        (fun i hi => by
          have hi := List.mem_range.mp hi
          exact ⟨tb_cmp (gp (a + 1 + i) (by omega) (fun _ _ => rfl) (by walk_at "v") (by walk_at "v")) (by walk_at "v" : TV _ _ _ _ (.lst (((pcs r w).drop (c + 1)).map DT.str))) (po_inT lsT_l) (by rfl), fun _ => by walk_at "v"⟩) ?_
      refine tk_if (tb_cmp (by walk_at "v" : TV _ _ _ _ (.lst (((List.range (c + 1 - (a + 1))).filter fun i => decide (pc r w (a + 1 + i) ∈ (pcs r w).drop (c + 1))).map fun i => DT.int ((a + 1 + i : Nat) : Int)))) (by walk_at "v" : TV _ _ _ _ (.lst [])) (po_neNil sm (shi _ _)) (by rfl)) (fun z => ?_) (fun z => tk_nil (tk_nil (tk_nil ⟨_, _, _, _, _, _, _, _, _, rfl, bag_le ok4 (by omega), rfl⟩)))
      have z2 := ne_nil_of z
      generalize hS2 : ((List.range (c + 1 - (a + 1))).filter fun i => decide (pc r w (a + 1 + i) ∈ (pcs r w).drop (c + 1))) = S2 at *
      have s2l : S2.length ≤ 200 := by
        rw [← hS2]
        have := List.length_filter_le (fun i => decide (pc r w (a + 1 + i) ∈ (pcs r w).drop (c + 1))) (List.range (c + 1 - (a + 1)))
        rw [List.length_range] at this
        omega
      refine tk_set (i := 11) (by walk_at "sto") (te_sub (te_v (by walk_at "v" : TV _ _ _ _ (.lst (S2.map fun i => DT.int ((a + 1 + i : Nat) : Int)))) (te_drawB (m := ((S2.map fun i => DT.int ((a + 1 + i : Nat) : Int)).length : Int)) L0 (by walk_at "k") (by rfl) (tva_cons (by walk_at "v" : TV _ _ _ _ (.ref p)) (tva_cons (tv_callB (by rfl) (by walk_at "as") (by walk_at "bt") (by walk_at "va" : TVA _ _ _ _ [.lst (S2.map fun i => DT.int ((a + 1 + i : Nat) : Int))]) (pf_lenL lsT_l)) tva_nil)) ok4 (by omega) (by rw [List.length_map]; omega) (by rw [List.length_map]; omega) fun d3 xs5 f0 f1 ok5 => ?_)) (fun _ _ => rfl))
      obtain ⟨k3, rfl⟩ := Int.eq_ofNat_of_zero_le f0
      obtain ⟨i2, hi2', at2⟩ := pick_at (l := S2) (h := fun i => ((a + 1 + i : Nat) : Int)) (k := k3) (by rw [List.length_map] at f1; omega)
      refine ⟨_, pi_lst lsT_l at2, ?_⟩
      rw [← hS2, List.mem_filter, List.mem_range] at hi2'
      obtain ⟨b1', b2'⟩ := hi2'
      have b2' := of_decide_eq_true b2'
      obtain ⟨b, hb⟩ : ∃ b, b = a + 1 + i2 := ⟨_, rfl⟩
      rw [← hb] at b2' ⊢
      have hbc : b ≤ c := by omega
      refine tk_setLcV (i := 12) (α := Nat) (l := List.range (m + 1 - (c + 1))) (g := fun i => .int ((c + 1 + i : Nat) : Int)) (f := fun i => .int ((c + 1 + i : Nat) : Int)) (tt := fun i => decide (pc r w (c + 1 + i) = pc r w b)) (own := [("_law_at", 13)]) (t := .nm 13) (by rfl) (by rfl) (by rfl) (by decide +kernel) (by exact Nat.le_of_ble_eq_true rfl) (by walk_at "tgt") (by walk_at "blk") (by decide) ⟨fun q => ti_range2 (by rfl) (by walk_at "as") (te_v (tv_bin (by walk_at "v" : TV _ _ _ _ (.int (c : Int))) (by walk_at "v" : TV _ _ _ _ (.int 1)) po_addI) (te_v (TV.castI (j := ((m + 1 : Nat) : Int)) (tv_bin (by walk_at "v" : TV _ _ _ _ (.int (m : Int))) (by walk_at "v" : TV _ _ _ _ (.int 1)) po_addI) (by omega)) ⟨_, _, rfl, rfl, ⟨by omega, by omega, by omega, by omega⟩, by rw [rng2]; exact q⟩))⟩ (by rw [List.length_range]; omega) (fun _ _ => rfl)
        (fun i hi => by
          have hi := List.mem_range.mp hi
          exact ⟨tb_cmp (gp (c + 1 + i) (by omega) (fun _ _ => rfl) (by walk_at "v") (by walk_at "v")) (gp b (by omega) (fun _ _ => rfl) (by walk_at "v") (by walk_at "v")) po_eqS (by rfl), fun _ => by walk_at "v"⟩) ?_
      have z3 : 1 ≤ ((List.range (m + 1 - (c + 1))).filter fun i => decide (pc r w (c + 1 + i) = pc r w b)).length := by
        obtain ⟨j, hj1, hj2⟩ := List.mem_iff_getElem.mp b2'
        rw [List.length_drop, pl] at hj1
        rw [List.getElem_drop] at hj2
        have e3 := pcs_get (r := r) (w := w) (i := c + 1 + j) (by omega)
        rw [List.getElem?_eq_getElem (by rw [pl]; omega), hj2] at e3
        exact List.length_pos_of_mem (a := j) (List.mem_filter.mpr ⟨List.mem_range.mpr (by omega), decide_eq_true (Option.some.inj e3).symm⟩)
      generalize hS3 : ((List.range (m + 1 - (c + 1))).filter fun i => decide (pc r w (c + 1 + i) = pc r w b)) = S3 at *
      have s3l : S3.length ≤ 200 := by
        rw [← hS3]
        have := List.length_filter_le (fun i => decide (pc r w (c + 1 + i) = pc r w b)) (List.range (m + 1 - (c + 1)))
        rw [List.length_range] at this
        omega
      refine tk_cons (ts_ret (te_tup (ta_v (by walk_at "v" : TV _ _ _ _ (.str (sOf "swap"))) (ta_v (by walk_at "v" : TV _ _ _ _ (.int (a : Int))) (ta_v (by walk_at "v" : TV _ _ _ _ (.int (b : Int))) (ta_v (by walk_at "v" : TV _ _ _ _ (.int (c : Int))) (ta_cons (te_sub (te_v (by walk_at "v" : TV _ _ _ _ (.lst (S3.map fun i => DT.int ((c + 1 + i : Nat) : Int)))) (te_drawB (m := ((S3.map fun i => DT.int ((c + 1 + i : Nat) : Int)).length : Int)) L0 (by walk_at "k") (by rfl) (tva_cons (by walk_at "v" : TV _ _ _ _ (.ref p)) (tva_cons (tv_callB (by rfl) (by walk_at "as") (by walk_at "bt") (by walk_at "va" : TVA _ _ _ _ [.lst (S3.map fun i => DT.int ((c + 1 + i : Nat) : Int))]) (pf_lenL lsT_l)) tva_nil)) ok5 (by omega) (by rw [List.length_map]; omega) (by rw [List.length_map]; omega) fun d4 xs6 g0 g1 ok6 => ?_)) (fun _ _ => rfl)))))))))
      obtain ⟨k4, rfl⟩ := Int.eq_ofNat_of_zero_le g0
      obtain ⟨i3, hi3', at3⟩ := pick_at (l := S3) (h := fun i => ((c + 1 + i : Nat) : Int)) (k := k4) (by rw [List.length_map] at g1; omega)
      rw [← hS3, List.mem_filter, List.mem_range] at hi3'
      obtain ⟨d1', d2'⟩ := hi3'
      have d2' := of_decide_eq_true d2'
      exact ⟨_, pi_lst lsT_l at3, ta_nil ⟨by exact Nat.le_of_ble_eq_true rfl, q _ xs6 (.inr ⟨a, b, c, c + 1 + i3, rfl, by omega, hbc, by omega, by omega, c2.symm, d2'.symm⟩) (bag_le ok6 (by omega))⟩⟩
    · rintro ρ1 σ2 ⟨xs2, a5, a6, a7, a8, a9, a10, a11, a12, rfl, ok2, rfl⟩
      have l3 : ((List.range (6 : Int).toNat).map fun i : Nat => DT.int (i : Int)).length = 6 := rfl
      rw [l3] at ok2
      exact tk_ret (by walk_at "v" : TV _ _ _ _ .non) (q _ xs2 (.inl rfl) (bag_le ok2 (by omega)))
end
end Y

/-! ### a chain of comparisons of any length, with any answer, as a test -/
namespace Y
open PySem PySem.Spec PyProof.Rows L2 L2H SX Z HotX
def tChG : List (R2 × L2.TE) → V → L2.TT
  | [], _ => fun _ _ _ => False
  | [(r, t)], x => fun σ H Q => t σ H fun y H1 => r x y H1 fun z H2 => ∃ k, z = .bl k ∧ Q k H2
  | (r, t) :: q :: l, x => fun σ H Q => t σ H fun y H1 => r x y H1 fun z H2 => ∃ k, z = .bl k ∧ (k = false → Q false H2) ∧ (k = true → tChG (q :: l) y σ H2 Q)
theorem lkT_runG {X : Cx} {pos : Pos} {os : List CmpOp} {bs : List Expr} {l : List (R2 × L2.TE)} (h : LkT X os bs l) : ∀ (pins : List (Addr × Obj)) (s : Shared) (σ : L2.St) (H : Hp) (x : V) (v : Value) (Q : Bool → Hp → Prop), Inv X pins σ H s → RelV x v → tChG l x σ H Q →
    wpAny (model X.prog X.w) X.A (testChain pos v os (evalEach bs X.env)) (TP X pins σ Q) X.xe s := by
  induction h with
  | last ho hb =>
    intro pins s σ H x v Q I r1 q
    exact test_last (thn (hb.run pins s σ H _ I q) fun u s2 ⟨y, H2, I2, r2, q2⟩ => thn (ho pins s2 σ H2 x y v u _ I2 r1 r2 q2) fun d s3 ⟨z, H3, I3, r3, k, e, q3⟩ => by
      subst e
      cases r3
      exact wpAny_truthy_bool ⟨H3, I3, q3⟩)
  | link ho hb _ ih =>
    intro pins s σ H x v Q I r1 q
    exact test_link (thn (hb.run pins s σ H _ I q) fun u s2 ⟨y, H2, I2, r2, q2⟩ => thn (ho pins s2 σ H2 x y v u _ I2 r1 r2 q2) fun d s3 ⟨z, H3, I3, r3, k, e, f3, q3⟩ => by
      subst e
      cases r3
      refine wpAny_truthy_bool ?_
      cases k with
      | false => exact ite_ff ⟨H3, I3, f3 rfl⟩
      | true => exact ite_tt (ih pins s3 σ H3 y u Q I3 r2 (q3 rfl)))
theorem pt_chainG {X : Cx} {a b b' : Expr} {ta : L2.TE} {op op' : CmpOp} {os : List CmpOp} {bs : List Expr} {l : List (R2 × L2.TE)} {pos : Pos} (ha : PE X a ta) (h : LkT X (op :: op' :: os) (b :: b' :: bs) l)
    (hm : lastMarks (op :: op' :: os) (b :: b' :: bs) = false) : PT X (.Compare a (op :: op' :: os) (b :: b' :: bs) pos) (fun σ H Q => ta σ H fun x H1 => tChG l x σ H1 Q) :=
  ⟨fun pins s σ H Q I q => isTrue_chain (thn (ha.run pins s σ H _ I q) fun v s1 ⟨x, H1, I1, r1, q1⟩ => lkT_runG h pins s1 σ H1 x v Q I1 r1 q1) hm⟩
theorem lkT_all (X : Cx) : ∀ (os : List CmpOp) (bs : List Expr), os ≠ [] → os.length = bs.length → LkT X os bs (lkL X os bs)
  | [], _, h, _ => absurd rfl h
  | [o], [b], _, _ => .last cO_or cE_pe
  | o :: o' :: os, b :: b' :: bs, _, h => .link cO_or cE_pe (lkT_all X (o' :: os) (b' :: bs) (by simp) (by simpa using h))
  | [o], [], _, h => by cases h
  | [o], _ :: _ :: _, _, h => by simp at h
  | _ :: _ :: _, [], _, h => by cases h
  | _ :: _ :: _, [_], _, h => by simp at h
/-- the links of a chain, and its answer -/
inductive TrG (c : Ct) (ρ : EnvT) (σ : Sg) : DT → List CmpOp → List Expr → Bool → Prop
  | last {x y o b r} : TV c b ρ σ y → PO2 c (compareOp o) x y σ (.bl r) → TrG c ρ σ x [o] [b] r
  | no {x y o b o' os b' bs} : TV c b ρ σ y → PO2 c (compareOp o) x y σ (.bl false) → TrG c ρ σ x (o :: o' :: os) (b :: b' :: bs) false
  | yes {x y o b o' os b' bs r} : TV c b ρ σ y → PO2 c (compareOp o) x y σ (.bl true) → TrG c ρ σ y (o' :: os) (b' :: bs) r → TrG c ρ σ x (o :: o' :: os) (b :: b' :: bs) r
section
variable {c : Ct} {ρ : EnvT} {σ : Sg}
/-- either answer of a link -/
theorem TrG.link {x y : DT} {o o' : CmpOp} {b b' : Expr} {os : List CmpOp} {bs : List Expr} {r s : Bool} (hb : TV c b ρ σ y) (ho : PO2 c (compareOp o) x y σ (.bl r)) (h : r = true → TrG c ρ σ y (o' :: os) (b' :: bs) s) : TrG c ρ σ x (o :: o' :: os) (b :: b' :: bs) (r && s) := by
  cases r with
  | false => exact .no hb ho
  | true => exact .yes hb ho (h rfl)
theorem trg_run {x : DT} {os : List CmpOp} {bs : List Expr} {r : Bool} (h : TrG c ρ σ x os bs r) : ∀ X, Con c X → ∀ (E : TX) st H K, Wd c.K H σ K → REnv c.K H ρ st → XC c H σ K st E → ∀ v, Rep c.K H v x → ∀ Q' : Bool → Hp → Prop, (∀ H' K', Gw H σ K H' σ K' → Wd c.K H' σ K' → Q' r K') → tChG (lkL X os bs) v st K Q' := by
  induction h with
  | last hb ho =>
    rename_i x y o b r
    intro X hX E st H K w rr xc v r1 Q' f
    refine (hb.to (Q := fun d σ' => d = y ∧ σ' = σ) ⟨rfl, rfl⟩).run X hX st H K w rr xc _ fun u d2 σ2 H2 K2 s2 w2 r2 ⟨z1, z2⟩ => ?_
    subst z1 z2
    refine ho.run X hX H2 K2 w2 v u (r1.same s2.b) r2 _ fun q1 H3 K3 s3 w3 r3 => ?_
    cases r3
    exact ⟨r, rfl, f H3 K3 (s2.trans s3) w3⟩
  | no hb ho =>
    rename_i x y o b o' os b' bs
    intro X hX E st H K w rr xc v r1 Q' f
    refine (hb.to (Q := fun d σ' => d = y ∧ σ' = σ) ⟨rfl, rfl⟩).run X hX st H K w rr xc _ fun u d2 σ2 H2 K2 s2 w2 r2 ⟨z1, z2⟩ => ?_
    subst z1 z2
    refine ho.run X hX H2 K2 w2 v u (r1.same s2.b) r2 _ fun q1 H3 K3 s3 w3 r3 => ?_
    cases r3
    exact ⟨false, rfl, fun _ => f H3 K3 (s2.trans s3) w3, fun z => nomatch z⟩
  | yes hb ho _ ih =>
    rename_i x y o b o' os b' bs r _
    intro X hX E st H K w rr xc v r1 Q' f
    refine (hb.to (Q := fun d σ' => d = y ∧ σ' = σ) ⟨rfl, rfl⟩).run X hX st H K w rr xc _ fun u d2 σ2 H2 K2 s2 w2 r2 ⟨z1, z2⟩ => ?_
    subst z1 z2
    refine ho.run X hX H2 K2 w2 v u (r1.same s2.b) r2 _ fun q1 H3 K3 s3 w3 r3 => ?_
    cases r3
    have g3 := s2.trans s3
    exact ⟨true, rfl, (fun z => nomatch z), fun _ => ih X hX E st H3 K3 w3 (rr.same g3.b) (xc.next g3) u (r2.same s3.b) Q' fun H4 K4 s4 w4 => f H4 K4 (g3.trans s4) w4⟩
theorem tb_chainG {a b b' : Expr} {o o' : CmpOp} {os : List CmpOp} {bs : List Expr} {x : DT} {pos : Pos} {r : Bool} (ha : TV c a ρ σ x) (h : TrG c ρ σ x (o :: o' :: os) (b :: b' :: bs) r) (hl : os.length = bs.length := by rfl)
    (hm : lastMarks (o :: o' :: os) (b :: b' :: bs) = false := by with_unfolding_all rfl) : TB c (.Compare a (o :: o' :: os) (b :: b' :: bs) pos) ρ σ r := ⟨fun {Q E} q => ⟨fun X hX st H K w rr xc Q' f => by
  refine cT_of (pt_chainG cE_pe (lkT_all X (o :: o' :: os) (b :: b' :: bs) (by simp) (by simpa using hl)) hm) ?_
  refine (ha.to (Q := fun d σ' => d = x ∧ σ' = σ) ⟨rfl, rfl⟩).run X hX st H K w rr xc _ fun v1 d1 σ1 H1 K1 s1 w1 r1 ⟨z1, z2⟩ => ?_
  subst z1 z2
  exact trg_run h X hX E st H1 K1 w1 (rr.same s1.b) (xc.next s1) v1 r1 Q' fun H2 K2 s2 w2 => f _ _ _ H2 K2 (s1.trans s2) w2 rfl q⟩⟩
end
end Y

/-! ### any values as moves -/
namespace Y
open PySem PySem.Spec L2 SX Z
def GRT : Int := 1000000000000000000000000000000000000000000000000000000000000
/-- what may be asked whether it is a move -/
structure MvArg (y : DT) : Prop where
  b : bi y = true
  t : ∀ xs, y = .tup xs → (∀ x ∈ xs, bi x = true) ∧ xs.length ≤ 100 ∧ Sh 3 y
def formTail (nm : List Nat) : List DT → Bool
  | [.int a, .int b, .int c, .int d] => decide (nm = sOf "swap") && (decide (a < b) && (decide (b ≤ c) && decide (c < d)))
  | [.int t] => decide (nm = sOf "turn") && decide (0 < t)
  | _ => false
def isFormV : DT → Bool
  | .tup (.str nm :: xs) => xs.all (fun x => isIntV x 0 GRT) && formTail nm xs
  | _ => false
theorem all_ints : ∀ {xs : List DT}, xs.all (fun x => isIntV x 0 GRT) = true → ∃ ns : List Int, xs = ns.map DT.int ∧ ∀ n ∈ ns, 0 ≤ n ∧ n ≤ GRT
  | [], _ => ⟨[], rfl, fun _ h => nomatch h⟩
  | x :: xs, h => by
    rw [List.all_cons, Bool.and_eq_true] at h
    obtain ⟨ns, rfl, hn⟩ := all_ints h.2
    cases x with
    | int i =>
      have h1 := h.1
      unfold isIntV at h1
      rw [Bool.and_eq_true, decide_eq_true_iff, decide_eq_true_iff] at h1
      refine ⟨i :: ns, rfl, fun n hm => ?_⟩
      rcases List.mem_cons.mp hm with rfl | hm
      · exact h1
      · exact hn n hm
    | _ => cases h.1
/-- a form is a swap or a turn -/
theorem form_cases {y : DT} (h : isFormV y = true) : (∃ t : Int, y = .tup [.str (sOf "turn"), .int t] ∧ 0 < t ∧ t ≤ GRT) ∨ (∃ a b c d : Int, y = .tup [.str (sOf "swap"), .int a, .int b, .int c, .int d] ∧ 0 ≤ a ∧ a < b ∧ b ≤ c ∧ c < d ∧ d ≤ GRT) := by
  unfold isFormV at h
  split at h
  · next nm xs =>
    rw [Bool.and_eq_true] at h
    obtain ⟨ns, rfl, hn⟩ := all_ints h.1
    have h2 := h.2
    match ns, hn, h2 with
    | [t], hn, h2 =>
      simp only [List.map_cons, List.map_nil, formTail, Bool.and_eq_true, decide_eq_true_iff] at h2
      exact .inl ⟨t, by rw [h2.1]; rfl, h2.2, (hn t (by simp)).2⟩
    | [a, b, c, d], hn, h2 =>
      simp only [List.map_cons, List.map_nil, formTail, Bool.and_eq_true, decide_eq_true_iff] at h2
      exact .inr ⟨a, b, c, d, by rw [h2.1]; rfl, (hn a (by simp)).1, h2.2.1, h2.2.2.1, h2.2.2.2, (hn d (by simp)).2⟩
    | [], _, h2 => cases h2
    | [_, _], _, h2 => cases h2
    | [_, _, _], _, h2 => cases h2
    | _ :: _ :: _ :: _ :: _ :: _, _, h2 => cases h2
  · cases h
def isMvV (r : List Nat) (w : Nat) (y : DT) : Bool := isFormV y && (match y with
  | .tup [.str _, .int t] => decide (t < ((r.length + 1 - w : Nat) : Int)) && decide (pc r w 0 = pc r w (r.length + 1 - w))
  | .tup [.str _, .int a, .int b, .int c, .int d] => decide (d ≤ ((r.length + 1 - w : Nat) : Int)) && (decide (pc r w a.toNat = pc r w c.toNat) && decide (pc r w b.toNat = pc r w d.toNat))
  | _ => false)
def spFormG : TSpec := fun ds σ Q E => ∃ y : DT, ds = [y] ∧ MvArg y ∧ Q (.bl (isFormV y)) σ
def spIsMvG : TSpec := fun ds σ Q E => ∃ (r : List Nat) (w : Nat) (y : DT), ds = [.str r, .int (w : Int), y] ∧ rowOk r ∧ 1 ≤ w ∧ w ≤ 12 ∧ w ≤ r.length ∧ MvArg y ∧ Q (.bl (isMvV r w y)) σ
theorem kit_str : ∀ T ∈ tys, T = "str" ∨ kitB T "str" = some false := by
  intro T hT
  simp only [tys, List.mem_cons, List.not_mem_nil, or_false] at hT
  rcases hT with rfl | rfl | rfl | rfl | rfl | rfl | rfl <;> first | exact .inl rfl | exact .inr (by decide +kernel)
theorem kit_tup : ∀ T ∈ tys, T = "tuple" ∨ kitB T "tuple" = some false := by
  intro T hT
  simp only [tys, List.mem_cons, List.not_mem_nil, or_false] at hT
  rcases hT with rfl | rfl | rfl | rfl | rfl | rfl | rfl <;> first | exact .inl rfl | exact .inr (by decide +kernel)
theorem eqT_cons {x : DT} {xs : List DT} : eqT (.tup (x :: xs)) (.tup []) = false := rfl
section
variable {P : Program} {w : World} {F : PySem.W.Frag} {mg : Str → Option Value} {base : Heap}
set_option maxHeartbeats 1000000 in
theorem ok_is_formG (sm : ∃ ob, base.get? sysModules = some ob) (LI : Dt P w F mg base "is_integer" ["value", "low", "high"] 1 spIntB) (gS : GlT F mg "SWAP" (.str (sOf "swap"))) (gT : GlT F mg "TURN" (.str (sOf "turn"))) (gG : GlT F mg "GREATEST" (.int 1000000000000000000000000000000000000000000000000000000000000)) (b1 : mg "isinstance" = none) (b2 : mg "tuple" = none) (b3 : mg "str" = none) (b4 : mg "all" = none) (b5 : mg "len" = none)
    (Fn : DfN F mg "is_form" ["value"] s_is_form) : Dt P w F mg base "is_form" ["value"] 2 spFormG := by
  refine dt_ok Fn sc_is_form (fun ds σ Q E h => ?_) (fun ds σ Q E Wx h => ?_)
  · obtain ⟨y, rfl, _⟩ := h
    rfl
  · obtain ⟨y, rfl, ha, q⟩ := h
    obtain ⟨T, hT, mem⟩ := bi_ty ha.b
    rcases kit_tup T mem with rfl | hk
    · obtain ⟨xs, rfl⟩ : ∃ xs, y = .tup xs := by
        have := hT (fun _ => none)
        cases y with
        | tup xs => exact ⟨xs, rfl⟩
        | _ => first | (simp [tyT] at this; done) | (cases ha.b; done)
      obtain ⟨hb, hl, hsh⟩ := ha.t xs rfl
      have iT : ∀ {ρ : EnvT} {nm : Str} {p1 p2 p3 p4 : Pos} {ct : Ct}, GlS ct "isinstance" → ct.mg "isinstance" = none → TV ct (.Name nm p4) ρ σ (.tup xs) → TV ct (.Name "tuple" p3) ρ σ (.ty "tuple") → TV ct (.Call (.Name "isinstance" p1) [.Name nm p4, .Name "tuple" p3] [] p2) ρ σ (.bl true) := fun h1 h2 h3 h4 => tv_callB h1 h2 (by walk_at "bt") (tva_cons h3 (tva_cons h4 tva_nil)) (pf_isi (r := true) rfl (by decide +kernel))
      cases xs with
      | nil =>
        refine tk_ifT (TB.cast (tb_W (tbw_or (r := false) (s := true) (TB.cast (tb_not (tb_val (iT (by rfl) (by walk_at "as") (by walk_at "v") (by walk_at "v")))) rfl) (fun _ => tbw_or (r := true) (s := true) (TB.cast (tb_cmp (by walk_at "v" : TV _ _ _ _ (.tup [])) (by walk_at "v" : TV _ _ _ _ (.tup [])) (po_eqT sm hsh (n := 3) (m := 1) (fun _ h => nomatch h) (by decide) (by decide)) (by rfl)) rfl) (fun z => absurd z (by decide))))) rfl) ?_
        exact tk_ret (by walk_at "v" : TV _ _ _ _ (.bl false)) q
      | cons x xs =>
        have hx := hb x (by simp)
        obtain ⟨T2, hT2, mem2⟩ := bi_ty hx
        have g0 : ∀ {ρ : EnvT} {e : Expr} {k : Nat} {p1 p2 : Pos} {ct : Ct}, TV ct e ρ σ (.tup (x :: xs)) → TV ct (.Subscript e (.Constant (.int 0) k p1) p2) ρ σ x := fun h1 => tv_sub h1 tv_int (pi_tup (Z.at_nat (j := 0) rfl rfl))
        rcases kit_str T2 mem2 with rfl | hk2
        · obtain ⟨nm, rfl⟩ : ∃ nm, x = .str nm := by
            have := hT2 (fun _ => none)
            cases x with
            | str nm => exact ⟨nm, rfl⟩
            | _ => first | (simp [tyT] at this; done) | (cases hx; done)
          refine tk_ifF (TB.cast (tb_W (tbw_or (r := false) (s := false) (TB.cast (tb_not (tb_val (iT (by rfl) (by walk_at "as") (by walk_at "v") (by walk_at "v")))) rfl) (fun _ => tbw_or (r := false) (s := false) (TB.cast (tb_cmp (by walk_at "v" : TV _ _ _ _ (.tup (.str nm :: xs))) (by walk_at "v" : TV _ _ _ _ (.tup [])) (po_eqT sm hsh (n := 3) (m := 1) (fun _ h => nomatch h) (by decide) (by decide)) (by rfl)) eqT_cons) (fun _ => tbw_or1 (TB.cast (tb_not (tb_val (tv_callB (by rfl) (by walk_at "as") (by walk_at "bt") (tva_cons (g0 (by walk_at "v")) (tva_cons (by walk_at "v") tva_nil)) (pf_isi (r := true) (hT2 _) (by decide +kernel))))) rfl))))) rfl) (tk_nil ?_)
          have hbx : ∀ x ∈ xs, bi x = true := fun z hz => hb z (List.mem_cons_of_mem _ hz)
          have hlx : xs.length ≤ 100 := by rw [List.length_cons] at hl; omega
          refine tk_cons (ts_star (i := 1) (j := 2) ⟨by walk_at "tgt", by walk_at "tgt", trivial⟩ ((by walk_at "v" : TV _ _ _ _ (.tup (.str nm :: xs))).to ⟨.str nm, xs, rfl, by omega, ?_⟩))
          have eb : xs.map (fun x => DT.bl (isIntV x 0 GRT)) = (xs.map fun x => isIntV x 0 GRT).map DT.bl := by rw [List.map_map]; rfl
          refine tk_if (TB.cast (j := !xs.all fun x => isIntV x 0 GRT) (tb_not (tb_val (tv_callB (by rfl) (by walk_at "as") (by walk_at "bt") (tva_cons (TV.castL (tv_lcM (α := DT) (l := xs) (g := id) (f := fun x => .bl (isIntV x 0 GRT)) (own := [("number", 3)]) (t := .nm 3) (by walk_at "tgt") (by walk_at "blk") (by decide) (tvi_lst (by rw [List.map_id]; walk_at "v")) (by omega) (fun _ _ => rfl)
            (fun n hn => tv_own (d := .bl (isIntV n 0 GRT)) LI (by walk_at "k") (by rfl) (tva_cons (by walk_at "v" : TV _ _ _ _ n) (tva_cons (by walk_at "v" : TV _ _ _ _ (.int 0)) (tva_cons (by walk_at "v" : TV _ _ _ _ (.int 1000000000000000000000000000000000000000000000000000000000000)) tva_nil))) (fun q => ⟨n, 0, GRT, rfl, hbx n hn, q⟩))) eb) tva_nil) (pf_all lsT_l)))) (by rw [List.all_map]; rfl)) (fun z => ?_) (fun z => tk_nil ?_)
          · have e0 : isFormV (.tup (.str nm :: xs)) = false := by
              show (xs.all (fun x => isIntV x 0 GRT) && formTail nm xs) = false
              rw [Bool.not_eq_true'] at z
              rw [z]; rfl
            rw [e0] at q
            exact tk_ret (by walk_at "v" : TV _ _ _ _ (.bl false)) q
          · have z : xs.all (fun x => isIntV x 0 GRT) = true := by
              rw [Bool.not_eq_false'] at z
              exact z
            have e0 : isFormV (.tup (.str nm :: xs)) = formTail nm xs := by
              show (xs.all (fun x => isIntV x 0 GRT) && formTail nm xs) = _
              rw [z]; rfl
            rw [e0] at q
            obtain ⟨ns, rfl, hns⟩ := all_ints z
            clear z e0 eb
            refine tk_if (tb_W (tbw_and (tb_cmp (by walk_at "v" : TV _ _ _ _ (.str nm)) (by walk_at "v" : TV _ _ _ _ (.str (sOf "swap"))) po_eqS (by rfl)) (fun _ => tbw_and1 (tb_cmp (tv_callB (by rfl) (by walk_at "as") (by walk_at "bt") (by walk_at "va" : TVA _ _ _ _ [.lst (ns.map DT.int)]) (pf_lenL lsT_l)) (by walk_at "v" : TV _ _ _ _ (.int 4)) po_eqI (by rfl))))) (fun z => ?_) (fun z => tk_nil ?_)
            · rw [Bool.and_eq_true, decide_eq_true_iff, decide_eq_true_iff, List.length_map] at z
              obtain ⟨rfl, z⟩ := z
              obtain ⟨a, b, c, d, rfl⟩ : ∃ a b c d, ns = [a, b, c, d] := by
                match ns, z with
                | [a, b, c, d], _ => exact ⟨a, b, c, d, rfl⟩
                | [], z => simp at z
                | [_], z => simp at z
                | [_, _], z => simp at z
                | [_, _, _], z => simp at z
                | _ :: _ :: _ :: _ :: _ :: _, z => simp only [List.length_cons] at z; omega
              have g : ∀ {ct : Ct} {ρ : EnvT} {e : Expr} {k : Nat} {p1 p2 : Pos} {i : Int} {x : DT}, TV ct e ρ σ (.lst ([a, b, c, d].map DT.int)) → atI ([a, b, c, d].map DT.int) i = some x → TV ct (.Subscript e (.Constant (.int i) k p1) p2) ρ σ x := fun h1 h2 => tv_sub h1 tv_int (pi_lst lsT_l h2)
              refine tk_ret (TV.castB (tv_chain3G (x := .int a) (y := .int b) (z := .int c) (v := .int d) (g (by walk_at "v") (by rfl)) (g (by walk_at "v") (by rfl)) (g (by walk_at "v") (by rfl)) (g (by walk_at "v") (by rfl)) po_ltI po_leI po_ltI) ?_) q
              show _ = (decide (sOf "swap" = sOf "swap") && (decide (a < b) && (decide (b ≤ c) && decide (c < d))))
              rw [decide_eq_true rfl, Bool.true_and]
            · rw [List.length_map] at z
              refine tk_ret (TV.castB (tv_and (tv_cmp (by walk_at "v" : TV _ _ _ _ (.str nm)) (by walk_at "v" : TV _ _ _ _ (.str (sOf "turn"))) po_eqS (by rfl)) (fun _ => tv_and (s := formTail (sOf "turn") (ns.map DT.int)) (tv_cmp (tv_callB (by rfl) (by walk_at "as") (by walk_at "bt") (by walk_at "va" : TVA _ _ _ _ [.lst (ns.map DT.int)]) (pf_lenL lsT_l)) (by walk_at "v" : TV _ _ _ _ (.int 1)) po_eqI (by rfl)) (fun z1 => ?_))) ?_) q
              · have z1 := of_decide_eq_true z1
                rw [List.length_map] at z1
                obtain ⟨t, rfl⟩ : ∃ t, ns = [t] := by
                  match ns, z1 with
                  | [t], _ => exact ⟨t, rfl⟩
                  | [], z => simp at z
                  | _ :: _ :: _, z => simp only [List.length_cons] at z; omega
                refine tv_one (TV.castB (tv_cmp (tv_sub (d := .int t) (by walk_at "v" : TV _ _ _ _ (.lst ([t].map DT.int))) (by walk_at "v" : TV _ _ _ _ (.int 0)) (pi_lst lsT_l (by rfl))) (by walk_at "v" : TV _ _ _ _ (.int 0)) po_gtI (by rfl)) ?_)
                show _ = (decide (sOf "turn" = sOf "turn") && decide (0 < t))
                rw [decide_eq_true rfl, Bool.true_and]
              · rw [List.length_map]
                match ns, z with
                | [], _ => simp [formTail]
                | [t], _ =>
                  by_cases e : nm = sOf "turn"
                  · subst e; simp [formTail]
                  · simp [formTail, e]
                | [_, _], _ => simp [formTail]
                | [_, _, _], _ => simp [formTail]
                | [a, b, c, d], z =>
                  have e : nm ≠ sOf "swap" := fun e => by rw [e] at z; simp at z
                  simp [formTail, e]
                | _ :: _ :: _ :: _ :: _ :: _, _ => simp [formTail]
        · have e0 : isFormV (.tup (x :: xs)) = false := by
            cases x with
            | str nm => exact absurd (hT2 (fun _ => none)) (fun z => by cases z; exact absurd hk2 (by decide +kernel))
            | _ => rfl
          rw [e0] at q
          refine tk_ifT (TB.cast (tb_W (tbw_or (r := false) (s := true) (TB.cast (tb_not (tb_val (iT (by rfl) (by walk_at "as") (by walk_at "v") (by walk_at "v")))) rfl) (fun _ => tbw_or (r := false) (s := true) (TB.cast (tb_cmp (by walk_at "v" : TV _ _ _ _ (.tup (x :: xs))) (by walk_at "v" : TV _ _ _ _ (.tup [])) (po_eqT sm hsh (n := 3) (m := 1) (fun _ h => nomatch h) (by decide) (by decide)) (by rfl)) eqT_cons) (fun _ => tbw_or1 (TB.cast (tb_not (tb_val (tv_callB (by rfl) (by walk_at "as") (by walk_at "bt") (tva_cons (g0 (by walk_at "v")) (tva_cons (by walk_at "v") tva_nil)) (pf_isi (r := false) (hT2 _) hk2)))) rfl))))) rfl) ?_
          exact tk_ret (by walk_at "v" : TV _ _ _ _ (.bl false)) q
    · have e0 : isFormV y = false := by
        cases y with
        | tup xs => exact absurd (hT (fun _ => none)) (fun z => by cases z; exact absurd hk (by decide +kernel))
        | _ => rfl
      rw [e0] at q
      refine tk_ifT (TB.cast (tb_W (tbw_or (r := true) (s := true) (TB.cast (tb_not (tb_val (tv_callB (by rfl) (by walk_at "as") (by walk_at "bt") (by walk_at "va" : TVA _ _ _ _ [y, .ty "tuple"]) (pf_isi (r := false) (hT _) hk)))) rfl) (fun z => absurd z (by decide)))) rfl) ?_
      exact tk_ret (by walk_at "v" : TV _ _ _ _ (.bl false)) q
set_option maxHeartbeats 1000000 in
theorem ok_is_move_ofG (LF : Dt P w F mg base "is_form" ["value"] 2 spFormG) (LL : Dt P w F mg base "last_index" ["row", "width"] 1 spLast) (LP : Dt P w F mg base "piece_in" ["row", "width", "index"] 1 spPiece) (gT : GlT F mg "TURN" (.str (sOf "turn")))
    (Fn : DfN F mg "is_move_of" ["row", "width", "value"] s_is_move_of) : Dt P w F mg base "is_move_of" ["row", "width", "value"] 3 spIsMvG := by
  refine dt_ok Fn sc_is_move_of (fun ds σ Q E h => ?_) (fun ds σ Q E Wx h => ?_)
  · obtain ⟨r, w, y, rfl, _⟩ := h
    rfl
  · obtain ⟨r, w, y, rfl, hr, w1, w2, wl, ha, q⟩ := h
    have l2 := hr.2.1
    refine tk_if (tb_not (tb_val (tv_own (d := .bl (isFormV y)) LF (by walk_at "k") (by rfl) (by walk_at "va" : TVA _ _ _ _ [y]) (fun q => ⟨y, rfl, ha, q⟩)))) (fun z => ?_) (fun z => tk_nil ?_)
    · rw [Bool.not_eq_true'] at z
      have e0 : isMvV r w y = false := by unfold isMvV; rw [z]; rfl
      rw [e0] at q
      exact tk_ret (by walk_at "v" : TV _ _ _ _ (.bl false)) q
    rw [Bool.not_eq_false'] at z
    refine tk_setV (i := 3) (by walk_at "sto") (TV.castI (j := ((r.length + 1 - w : Nat) : Int)) (tv_own (d := .int ((r.length : Int) - (w : Int) + 1)) LL (by walk_at "k") (by rfl) (by walk_at "va" : TVA _ _ _ _ [.str r, .int (w : Int)]) (fun q => ⟨r, w, rfl, l2, q⟩)) (by omega)) ?_
    rcases form_cases z with ⟨t, rfl, h1, h2⟩ | ⟨a, b, c, d, rfl, h0, h1, h2, h3, h4⟩
    · refine tk_ifT (TB.cast (tb_cmp (tv_sub (d := .str (sOf "turn")) (by walk_at "v" : TV _ _ _ _ (.tup [.str (sOf "turn"), .int t])) (by walk_at "v" : TV _ _ _ _ (.int 0)) (pi_tup (by rfl))) (by walk_at "v" : TV _ _ _ _ (.str (sOf "turn"))) po_eqS (by rfl)) (by rfl)) ?_
      refine tk_ret (TV.castB (tv_and (tv_cmp (tv_sub (d := .int t) (by walk_at "v" : TV _ _ _ _ (.tup [.str (sOf "turn"), .int t])) (by walk_at "v" : TV _ _ _ _ (.int 1)) (pi_tup (by rfl))) (by walk_at "v" : TV _ _ _ _ (.int ((r.length + 1 - w : Nat) : Int))) po_ltI (by rfl)) (fun _ => tv_one (tv_cmp
        (tv_own (d := .str (pc r w 0)) LP (by walk_at "k") (by rfl) (by walk_at "va" : TVA _ _ _ _ [.str r, .int (w : Int), .int 0]) (fun q => ⟨r, w, 0, rfl, l2, w1, w2, by omega, q⟩))
        (tv_own (d := .str (pc r w (r.length + 1 - w))) LP (by walk_at "k") (by rfl) (by walk_at "va" : TVA _ _ _ _ [.str r, .int (w : Int), .int ((r.length + 1 - w : Nat) : Int)]) (fun q => ⟨r, w, r.length + 1 - w, rfl, l2, w1, w2, by omega, q⟩)) po_eqS (by rfl)))) (by unfold isMvV; rw [z]; rfl)) q
    · obtain ⟨a, rfl⟩ := Int.eq_ofNat_of_zero_le h0
      obtain ⟨b, rfl⟩ := Int.eq_ofNat_of_zero_le (show 0 ≤ b by omega)
      obtain ⟨c, rfl⟩ := Int.eq_ofNat_of_zero_le (show 0 ≤ c by omega)
      obtain ⟨d, rfl⟩ := Int.eq_ofNat_of_zero_le (show 0 ≤ d by omega)
      have em : isMvV r w (.tup [.str (sOf "swap"), .int (a : Int), .int (b : Int), .int (c : Int), .int (d : Int)]) = (decide ((d : Int) ≤ ((r.length + 1 - w : Nat) : Int)) && (decide (pc r w a = pc r w c) && decide (pc r w b = pc r w d))) := by unfold isMvV; rw [z]; rfl
      rw [em] at q
      refine tk_ifF (TB.cast (tb_cmp (tv_sub (d := .str (sOf "swap")) (by walk_at "v" : TV _ _ _ _ (.tup [.str (sOf "swap"), .int (a : Int), .int (b : Int), .int (c : Int), .int (d : Int)])) (by walk_at "v" : TV _ _ _ _ (.int 0)) (pi_tup (by rfl))) (by walk_at "v" : TV _ _ _ _ (.str (sOf "turn"))) po_eqS (by rfl)) (by decide)) (tk_nil ?_)
      refine tk_if (tb_cmp (tv_sub (d := .int (d : Int)) (by walk_at "v" : TV _ _ _ _ (.tup [.str (sOf "swap"), .int (a : Int), .int (b : Int), .int (c : Int), .int (d : Int)])) (by walk_at "v" : TV _ _ _ _ (.int 4)) (pi_tup (by rfl))) (by walk_at "v" : TV _ _ _ _ (.int ((r.length + 1 - w : Nat) : Int))) po_gtI (by rfl)) (fun z => ?_) (fun z => tk_nil ?_)
      · have z := of_decide_eq_true z
        rw [decide_eq_false (by omega : ¬ (d : Int) ≤ ((r.length + 1 - w : Nat) : Int))] at q
        exact tk_ret (by walk_at "v" : TV _ _ _ _ (.bl false)) q
      · have z := of_decide_eq_false z
        rw [decide_eq_true (by omega : (d : Int) ≤ ((r.length + 1 - w : Nat) : Int)), Bool.true_and] at q
        refine tk_setLcM (i := 4) (α := Nat) (l := [a, b, c, d]) (g := fun i => .int (i : Int)) (f := fun i => .str (pc r w i)) (own := [("index", 5)]) (t := .nm 5) (by rfl) (by rfl) (by rfl) (by decide) (by exact Nat.le_of_ble_eq_true rfl) (by walk_at "tgt") (by walk_at "blk") (by decide) (tvi_tup (TV.cast (tv_slice (by walk_at "v" : TV _ _ _ _ (.tup [.str (sOf "swap"), .int (a : Int), .int (b : Int), .int (c : Int), .int (d : Int)])) (to_some (by walk_at "v" : TV _ _ _ _ (.int 1))) to_none (pl_tup (show ¬ (HT.sIx 5 0 (some 1) = 0 ∧ HT.sIx 5 5 none = 5) from by decide))) (by rfl))) (by exact Nat.le_of_ble_eq_true rfl) (fun _ _ => rfl)
          (fun i hi => tv_own (d := .str (pc r w i)) LP (by walk_at "k") (by rfl) (by walk_at "va" : TVA _ _ _ _ [.str r, .int (w : Int), .int (i : Int)]) (fun q => ⟨r, w, i, rfl, l2, w1, w2, by
            simp only [List.mem_cons, List.not_mem_nil, or_false] at hi
            rcases hi with rfl | rfl | rfl | rfl <;> omega, q⟩)) ?_
        have g : ∀ {ct : Ct} {ρ : EnvT} {e : Expr} {k : Nat} {p1 p2 : Pos} {i : Int} {x : DT}, TV ct e ρ σ (.lst ([a, b, c, d].map fun i => .str (pc r w i))) → atI ([a, b, c, d].map fun i => DT.str (pc r w i)) i = some x → TV ct (.Subscript e (.Constant (.int i) k p1) p2) ρ σ x := fun h1 h2 => tv_sub h1 tv_int (pi_lst lsT_l h2)
        exact tk_ret (tv_and (tv_cmp (g (x := .str (pc r w a)) (by walk_at "v") (by rfl)) (g (x := .str (pc r w c)) (by walk_at "v") (by rfl)) po_eqS (by rfl)) (fun _ => tv_one (tv_cmp (g (x := .str (pc r w b)) (by walk_at "v") (by rfl)) (g (x := .str (pc r w d)) (by walk_at "v") (by rfl)) po_eqS (by rfl)))) q
end
end Y

/-! ### the row after any form, by hand -/
namespace Y
open PySem PySem.Spec L2 SX Z
def szI (r : List Nat) (w : Nat) : Int := ((r.length + 1 - w : Nat) : Int)
def aftV (r : List Nat) (w : Nat) : DT → DT
  | .tup [.str _, .int t] => if 0 < t ∧ t < szI r w then aftB r w (.tn t.toNat) else .non
  | .tup [.str _, .int a, .int b, .int c, .int d] => if 0 ≤ a ∧ a < b ∧ b ≤ c ∧ c < d ∧ d ≤ szI r w then aftB r w (.sw a.toNat b.toNat c.toNat d.toNat) else .non
  | _ => .non
theorem aftV_tn (r : List Nat) (w : Nat) (s : List Nat) (t : Int) : aftV r w (.tup [.str s, .int t]) = if 0 < t ∧ t < szI r w then aftB r w (.tn t.toNat) else .non := rfl
theorem aftV_sw (r : List Nat) (w : Nat) (s : List Nat) (a b c d : Int) : aftV r w (.tup [.str s, .int a, .int b, .int c, .int d]) = if 0 ≤ a ∧ a < b ∧ b ≤ c ∧ c < d ∧ d ≤ szI r w then aftB r w (.sw a.toNat b.toNat c.toNat d.toNat) else .non := rfl
def spAftG : TSpec := fun ds σ Q E => ∃ (r : List Nat) (w : Nat) (y : DT), ds = [.str r, .int (w : Int), y] ∧ r.length ≤ 200 ∧ 1 ≤ w ∧ w ≤ 12 ∧ w ≤ r.length ∧ ((∃ t : Int, y = .tup [.str (sOf "turn"), .int t]) ∨ ∃ a b c d : Int, y = .tup [.str (sOf "swap"), .int a, .int b, .int c, .int d]) ∧ Q (aftV r w y) σ
section
variable {P : Program} {w : World} {F : PySem.W.Frag} {mg : Str → Option Value} {base : Heap}
set_option maxHeartbeats 2000000 in
theorem ok_afterG (L1 : Dt P w F mg base "_law_windows" ["_law_letters_here", "_law_wide"] 1 spWinsB) (L2 : Dt P w F mg base "_law_chain" ["_law_some", "_law_wide"] 1 spChainB) (b1 : mg "len" = none) (Fn : DfN F mg "_law_after" ["_law_letters_here", "_law_wide", "_law_move"] s_law_after) : Dt P w F mg base "_law_after" ["_law_letters_here", "_law_wide", "_law_move"] 2 spAftG := by
  refine dt_ok Fn sc_law_after (fun ds σ Q E h => ?_) (fun ds σ Q E Wx h => ?_)
  · obtain ⟨r, w, y, rfl, _⟩ := h
    rfl
  · obtain ⟨r, w, y, rfl, l2, w1, w2, wl, hy, q⟩ := h
    have wln := win_len r w
    refine tk_setV (i := 3) (by walk_at "sto") (tv_own (d := .lst ((winL r w).map DT.str)) L1 (by walk_at "k") (by rfl) (by walk_at "va" : TVA _ _ _ _ [.str r, .int (w : Int)]) (fun q => ⟨r, w, rfl, l2, by omega, q⟩)) ?_
    refine tk_setV (i := 4) (by walk_at "sto") (TV.castI (j := ((r.length + 1 - w : Nat) : Int)) (tv_callB (by rfl) (by walk_at "as") (by walk_at "bt") (by walk_at "va" : TVA _ _ _ _ [.lst ((winL r w).map DT.str)]) (pf_lenL lsT_l)) (by rw [List.length_map, wln])) ?_
    have fin : ∀ {m : Mv} {Q' : DT → Sg → Prop}, inR r w m → pcB r w m = true → Q' (aftB r w m) σ → spChainB [.lst ((goW (winL r w) m).map DT.str), .int (w : Int)] σ Q' E := fun {m Q'} hm hp q => by
      have ok := mvOk_of hm hp
      obtain ⟨x, xs, hg, e⟩ := goW_row ok w1
      obtain ⟨p, q', pa⟩ := path_goW ok w1
      have hmem : ∀ k ∈ x :: xs, k.length = w := fun k hk => by rw [← hg] at hk; exact win_lenw (goW_mem hk)
      have e1 := congrArg List.length e
      rw [List.length_append, List.length_map, goM_len ok w1] at e1
      unfold aftB at q
      rw [if_pos hp, ← e] at q
      rw [hg] at pa ⊢
      exact ⟨x, xs, p, q', w, rfl, w1, by omega, by omega, pa, hmem, q⟩
    rcases hy with ⟨ti, rfl⟩ | ⟨ai, bi', ci, di, rfl⟩
    · by_cases ht : 0 < ti ∧ ti < szI r w
      · obtain ⟨t, rfl⟩ := Int.eq_ofNat_of_zero_le (show 0 ≤ ti by omega)
        have h1 : 1 ≤ t := by have := ht.1; omega
        have h2 : t + w ≤ r.length := by have := ht.2; unfold szI at this; omega
        have q : Q (aftB r w (.tn t)) σ := by
          have e : aftV r w (.tup [.str (sOf "turn"), .int (t : Int)]) = aftB r w (.tn t) := by
            rw [aftV_tn, if_pos ht, Int.toNat_natCast]
          rw [← e]
          exact q
        refine tk_ifT (TB.cast (tb_cmp (tv_sub (d := .str (sOf "turn")) (by walk_at "v" : TV _ _ _ _ (mvT (.tn t))) (by walk_at "v" : TV _ _ _ _ (.int 0)) (pi_tup (by rfl))) (by walk_at "v" : TV _ _ _ _ (.str (sOf "turn"))) po_eqS (by rfl)) (by rfl)) ?_
        refine tk_setV (i := 5) (by walk_at "sto") (tv_sub (d := .int (t : Int)) (by walk_at "v" : TV _ _ _ _ (mvT (.tn t))) (by walk_at "v" : TV _ _ _ _ (.int 1)) (pi_tup (by rfl))) ?_
        refine tk_ifG (tb_W (tbw_or (r := false) (TB.cast (tb_not (tb_chainN (x := .int 0) (by walk_at "v") (.link (y := .int (t : Int)) (by walk_at "v") (by
          have z : decide ((0 : Int) < (t : Int)) = true := decide_eq_true (by omega)
          rw [← z]; exact po_ltI) (.last (y := .int ((r.length + 1 - w : Nat) : Int)) (by walk_at "v") (by
          have z : decide ((t : Int) < ((r.length + 1 - w : Nat) : Int)) = true := decide_eq_true (by omega)
          rw [← z]; exact po_ltI))))) (by rfl)) (fun _ => tbw_or1 (tb_cmp (TV.castS (j := pc r w 0) (tv_slice (by walk_at "v" : TV _ _ _ _ (.str r)) to_none (to_some (tv_bin (by walk_at "v" : TV _ _ _ _ (.int (w : Int))) (by walk_at "v" : TV _ _ _ _ (.int 1)) po_subI)) (pl_str (by omega))) (by rw [Z.cut_to (j := w - 1) (by omega)]; rfl)) (TV.castS (j := pc r w (r.length + 1 - w)) (tv_slice (by walk_at "v" : TV _ _ _ _ (.str r)) (to_some (by walk_at "v" : TV _ _ _ _ (.int ((r.length + 1 - w : Nat) : Int)))) to_none (pl_str (by omega))) (by
            rw [Z.cut_from (i := r.length + 1 - w) rfl]
            unfold pc
            rw [List.take_of_length_le (by rw [List.length_drop]; omega)])) po_neS (by rfl))))) (fun z => ?_) (fun z => ?_)
        · rw [Bool.false_or] at z
          have z : ¬ pc r w 0 = pc r w (r.length + 1 - w) := by simpa using z
          refine tk_ret (by walk_at "v" : TV _ _ _ _ .non) ?_
          have : aftB r w (.tn t) = .non := if_neg (by show ¬ (decide (pc r w 0 = pc r w (r.length + 1 - w)) = true); rw [decide_eq_false z]; decide)
          rw [← this]; exact q
        · rw [Bool.false_or] at z
          have z : pc r w 0 = pc r w (r.length + 1 - w) := by simpa using z
          have hc : ∀ (lo hi : Option Int), (cutT ((winL r w).map DT.str) lo hi).length ≤ 200 := fun lo hi => by
            unfold cutT
            rw [List.length_take, List.length_drop, List.length_map]
            omega
          refine tk_cons (ts_ret (te_own L2 (by walk_at "k") (by rfl) ((tva_cons (TV.castL (j := (goW (winL r w) (.tn t)).map DT.str) (tv_bin (tv_slice (by walk_at "v" : TV _ _ _ _ (.lst ((winL r w).map DT.str))) (to_some (by walk_at "v" : TV _ _ _ _ (.int (t : Int)))) to_none (pl_lst lsT_l)) (tv_slice (by walk_at "v" : TV _ _ _ _ (.lst ((winL r w).map DT.str))) to_none (to_some (by walk_at "v" : TV _ _ _ _ (.int (t : Int)))) (pl_lst lsT_l)) (po_cat lsX_l lsX_l (by have := hc (some (t : Int)) none; have := hc none (some (t : Int)); omega))) (by rw [cut_from (i := t) rfl, cut_to (j := t) rfl, ← List.map_drop, ← List.map_take, ← List.map_append]; rfl)) (tva_cons (by walk_at "v" : TV _ _ _ _ (.int (w : Int))) tva_nil)).to (fin ⟨h1, h2⟩ (decide_eq_true z) q))))
      · have q : Q .non σ := by
          have e : aftV r w (.tup [.str (sOf "turn"), .int ti]) = .non := by
            rw [aftV_tn, if_neg ht]
          rw [← e]
          exact q
        refine tk_ifT (TB.cast (tb_cmp (tv_sub (d := .str (sOf "turn")) (by walk_at "v" : TV _ _ _ _ (.tup [.str (sOf "turn"), .int ti])) (by walk_at "v" : TV _ _ _ _ (.int 0)) (pi_tup (by rfl))) (by walk_at "v" : TV _ _ _ _ (.str (sOf "turn"))) po_eqS (by rfl)) (by rfl)) ?_
        refine tk_setV (i := 5) (by walk_at "sto") (tv_sub (d := .int ti) (by walk_at "v" : TV _ _ _ _ (.tup [.str (sOf "turn"), .int ti])) (by walk_at "v" : TV _ _ _ _ (.int 1)) (pi_tup (by rfl))) ?_
        refine tk_ifT (tb_W (tbw_or (r := true) (s := true) (TB.cast (tb_not (tb_chainG (x := .int 0) (by walk_at "v") (.link (y := .int ti) (by walk_at "v") po_ltI (fun _ => .last (y := .int (szI r w)) (by walk_at "v") po_ltI)))) (by
          unfold szI at ht ⊢
          rw [Bool.not_eq_true', Bool.and_eq_false_iff, decide_eq_false_iff_not, decide_eq_false_iff_not]
          omega)) (fun z => nomatch z))) ?_
        exact tk_ret (by walk_at "v" : TV _ _ _ _ .non) q
    · by_cases ht : 0 ≤ ai ∧ ai < bi' ∧ bi' ≤ ci ∧ ci < di ∧ di ≤ szI r w
      · obtain ⟨a, rfl⟩ := Int.eq_ofNat_of_zero_le ht.1
        obtain ⟨b, rfl⟩ := Int.eq_ofNat_of_zero_le (show 0 ≤ bi' by omega)
        obtain ⟨c, rfl⟩ := Int.eq_ofNat_of_zero_le (show 0 ≤ ci by omega)
        obtain ⟨d, rfl⟩ := Int.eq_ofNat_of_zero_le (show 0 ≤ di by omega)
        obtain ⟨_, g1, g2, g3, g4⟩ := id ht
        have h1 : a < b := by omega
        have h2 : b ≤ c := by omega
        have h3 : c < d := by omega
        have h4 : d + w ≤ r.length + 1 := by unfold szI at g4; omega
        have q : Q (aftB r w (.sw a b c d)) σ := by
          have e : aftV r w (.tup [.str (sOf "swap"), .int (a : Int), .int (b : Int), .int (c : Int), .int (d : Int)]) = aftB r w (.sw a b c d) := by
            rw [aftV_sw, if_pos ht]
            simp only [Int.toNat_natCast]
          rw [← e]
          exact q
        refine tk_ifF (TB.cast (tb_cmp (tv_sub (d := .str (sOf "swap")) (by walk_at "v" : TV _ _ _ _ (mvT (.sw a b c d))) (by walk_at "v" : TV _ _ _ _ (.int 0)) (pi_tup (by rfl))) (by walk_at "v" : TV _ _ _ _ (.str (sOf "turn"))) po_eqS (by rfl)) (by decide)) (tk_nil ?_)
        refine tk_cons (ts_tg (t := .tp [6, 7, 8, 9]) (by walk_at "tgs") ((TV.cast (y := .tup [.int (a : Int), .int (b : Int), .int (c : Int), .int (d : Int)]) (tv_slice (by walk_at "v" : TV _ _ _ _ (mvT (.sw a b c d))) (to_some (by walk_at "v" : TV _ _ _ _ (.int 1))) to_none (pl_tup (show ¬ (HT.sIx 5 0 (some 1) = 0 ∧ HT.sIx 5 5 none = 5) from by decide))) (by rfl)).to ⟨_, rfl, ?_⟩))
        have lt : ∀ {ct : Ct} (i j : Nat), i < j → PO2 ct (compareOp .Lt) (.int (i : Int)) (.int (j : Int)) σ (.bl true) := fun i j h => by
          have z : decide ((i : Int) < (j : Int)) = true := decide_eq_true (by omega)
          rw [← z]; exact po_ltI
        have le : ∀ {ct : Ct} (i j : Nat), i ≤ j → PO2 ct (compareOp .LtE) (.int (i : Int)) (.int (j : Int)) σ (.bl true) := fun i j h => by
          have z : decide ((i : Int) ≤ (j : Int)) = true := decide_eq_true (by omega)
          rw [← z]; exact po_leI
        refine tk_ifF (TB.cast (tb_not (tb_chainN (x := .int 0) (by walk_at "v") (.link (y := .int (a : Int)) (by walk_at "v") (le 0 a (by omega)) (.link (y := .int (b : Int)) (by walk_at "v") (lt a b h1) (.link (y := .int (c : Int)) (by walk_at "v") (le b c h2) (.link (y := .int (d : Int)) (by walk_at "v") (lt c d h3) (.last (y := .int ((r.length + 1 - w : Nat) : Int)) (by walk_at "v") (le d _ (by omega))))))))) (by rfl)) (tk_nil ?_)
        refine tk_setLcM (i := 10) (α := Nat) (l := [a, b, c, d]) (g := fun i => .int (i : Int)) (f := fun i => .str (pc r w i)) (own := [("_law_at", 12)]) (t := .nm 12) (by rfl) (by rfl) (by rfl) (by decide +kernel) (by exact Nat.le_of_ble_eq_true rfl) (by walk_at "tgt") (by walk_at "blk") (by decide) (tvi_tup (by walk_at "v" : TV _ _ _ _ (.tup [.int (a : Int), .int (b : Int), .int (c : Int), .int (d : Int)]))) (by exact Nat.le_of_ble_eq_true rfl) (fun _ _ => rfl)
          (fun i hi => TV.castS (tv_slice (by walk_at "v" : TV _ _ _ _ (.str r)) (to_some (by walk_at "v" : TV _ _ _ _ (.int (i : Int)))) (to_some (tv_bin (tv_bin (by walk_at "v" : TV _ _ _ _ (.int (i : Int))) (by walk_at "v" : TV _ _ _ _ (.int (w : Int))) po_addI) (by walk_at "v" : TV _ _ _ _ (.int 1)) po_subI)) (pl_str (by omega))) (by rw [Z.cut_two (i := i) (j := i + (w - 1)) rfl (by omega)]; unfold pc; congr 1; omega)) ?_
        have g : ∀ {ct : Ct} {ρ : EnvT} {e : Expr} {k : Nat} {p1 p2 : Pos} {i : Int} {x : DT}, TV ct e ρ σ (.lst ([a, b, c, d].map fun i => .str (pc r w i))) → atI ([a, b, c, d].map fun i => DT.str (pc r w i)) i = some x → TV ct (.Subscript e (.Constant (.int i) k p1) p2) ρ σ x := fun h1 h2 => tv_sub h1 tv_int (pi_lst lsT_l h2)
        refine tk_ifG (tb_W (tbw_or (r := !decide (pc r w a = pc r w c)) (tb_cmp (g (x := .str (pc r w a)) (by walk_at "v") (by rfl)) (g (x := .str (pc r w c)) (by walk_at "v") (by rfl)) po_neS (by rfl)) (fun _ => tbw_or1 (tb_cmp (g (x := .str (pc r w b)) (by walk_at "v") (by rfl)) (g (x := .str (pc r w d)) (by walk_at "v") (by rfl)) po_neS (by rfl))))) (fun z => ?_) (fun z => ?_)
        · refine tk_ret (by walk_at "v" : TV _ _ _ _ .non) ?_
          have : aftB r w (.sw a b c d) = .non := if_neg (by
            show ¬ ((decide (pc r w a = pc r w c) && decide (pc r w b = pc r w d)) = true)
            simp at z ⊢
            intro e1 e2
            rcases z with z | z
            · exact z e1
            · exact z e2)
          rw [← this]; exact q
        · have z : (decide (pc r w a = pc r w c) && decide (pc r w b = pc r w d)) = true := by simpa using z
          have s2 : ∀ {ct : Ct} {ρ : EnvT} {e x y : Expr} {p1 p2 : Pos} (i j : Nat), TV ct e ρ σ (.lst ((winL r w).map DT.str)) → TV ct x ρ σ (.int (i : Int)) → TV ct y ρ σ (.int (j : Int)) → TV ct (.Subscript e (.Slice (some x) (some y) none p1) p2) ρ σ (.lst ((((winL r w).drop i).take (j - i)).map DT.str)) := fun i j h1 h2 h3 => TV.castL (tv_slice h1 (to_some h2) (to_some h3) (pl_lst lsT_l)) (by rw [cut_two (i := i) (j := j) rfl rfl, ← List.map_drop, ← List.map_take])
          have tl : ∀ i : Nat, ((winL r w).take i).length ≤ 200 := fun i => by rw [List.length_take]; omega
          have dl : ∀ i : Nat, ((winL r w).drop i).length ≤ 200 := fun i => by rw [List.length_drop]; omega
          have sl : ∀ i j : Nat, (((winL r w).drop i).take j).length ≤ 200 := fun i j => by rw [List.length_take, List.length_drop]; omega
          have t1 := tl a
          have t2 := sl c (d - c)
          have t3 := sl b (c - b)
          have t4 := sl a (b - a)
          have t5 := dl d
          refine tk_setV (i := 11) (by walk_at "sto") (TV.castL (j := ((winL r w).take a ++ ((winL r w).drop c).take (d - c) ++ ((winL r w).drop b).take (c - b)).map DT.str) (tv_bin (tv_bin (TV.castL (j := ((winL r w).take a).map DT.str) (tv_slice (by walk_at "v" : TV _ _ _ _ (.lst ((winL r w).map DT.str))) to_none (to_some (by walk_at "v" : TV _ _ _ _ (.int (a : Int)))) (pl_lst lsT_l)) (by rw [cut_to (j := a) rfl, ← List.map_take])) (s2 c d (by walk_at "v") (by walk_at "v") (by walk_at "v")) (po_cat lsX_l lsX_l (by simp only [List.length_map]; omega))) (s2 b c (by walk_at "v") (by walk_at "v") (by walk_at "v")) (po_cat lsX_l lsX_l (by simp only [List.length_append, List.length_map]; omega))) (by simp only [List.map_append])) ?_
          refine tk_cons (ts_ret (te_own L2 (by walk_at "k") (by rfl) ((tva_cons (TV.castL (j := (goW (winL r w) (.sw a b c d)).map DT.str) (tv_bin (tv_bin (by walk_at "v" : TV _ _ _ _ (.lst (((winL r w).take a ++ ((winL r w).drop c).take (d - c) ++ ((winL r w).drop b).take (c - b)).map DT.str))) (s2 a b (by walk_at "v") (by walk_at "v") (by walk_at "v")) (po_cat lsX_l lsX_l (by simp only [List.length_append, List.length_map]; omega))) (TV.castL (j := ((winL r w).drop d).map DT.str) (tv_slice (by walk_at "v" : TV _ _ _ _ (.lst ((winL r w).map DT.str))) (to_some (by walk_at "v" : TV _ _ _ _ (.int (d : Int)))) to_none (pl_lst lsT_l)) (by rw [cut_from (i := d) rfl, ← List.map_drop])) (po_cat lsX_l lsX_l (by simp only [List.length_append, List.length_map]; omega))) (by show _ = (((winL r w).take a ++ ((winL r w).drop c).take (d - c) ++ ((winL r w).drop b).take (c - b) ++ ((winL r w).drop a).take (b - a) ++ (winL r w).drop d).map DT.str); simp only [List.map_append])) (tva_cons (by walk_at "v" : TV _ _ _ _ (.int (w : Int))) tva_nil)).to (fin ⟨h1, h2, h3, h4⟩ z q))))
      · have q : Q .non σ := by
          have e : aftV r w (.tup [.str (sOf "swap"), .int ai, .int bi', .int ci, .int di]) = .non := by
            rw [aftV_sw, if_neg ht]
          rw [← e]
          exact q
        refine tk_ifF (TB.cast (tb_cmp (tv_sub (d := .str (sOf "swap")) (by walk_at "v" : TV _ _ _ _ (.tup [.str (sOf "swap"), .int ai, .int bi', .int ci, .int di])) (by walk_at "v" : TV _ _ _ _ (.int 0)) (pi_tup (by rfl))) (by walk_at "v" : TV _ _ _ _ (.str (sOf "turn"))) po_eqS (by rfl)) (by decide)) (tk_nil ?_)
        refine tk_cons (ts_tg (t := .tp [6, 7, 8, 9]) (by walk_at "tgs") ((TV.cast (y := .tup [.int ai, .int bi', .int ci, .int di]) (tv_slice (by walk_at "v" : TV _ _ _ _ (.tup [.str (sOf "swap"), .int ai, .int bi', .int ci, .int di])) (to_some (by walk_at "v" : TV _ _ _ _ (.int 1))) to_none (pl_tup (show ¬ (HT.sIx 5 0 (some 1) = 0 ∧ HT.sIx 5 5 none = 5) from by decide))) (by rfl)).to ⟨_, rfl, ?_⟩))
        refine tk_ifT (TB.cast (tb_not (tb_chainG (x := .int 0) (by walk_at "v") (.link (y := .int ai) (by walk_at "v") po_leI (fun _ => .link (y := .int bi') (by walk_at "v") po_ltI (fun _ => .link (y := .int ci) (by walk_at "v") po_leI (fun _ => .link (y := .int di) (by walk_at "v") po_ltI (fun _ => .last (y := .int (szI r w)) (by walk_at "v") po_leI))))))) (by
          unfold szI at ht ⊢
          simp only [Bool.not_eq_true', Bool.and_eq_false_iff, decide_eq_false_iff_not]
          omega)) ?_
        exact tk_ret (by walk_at "v" : TV _ _ _ _ .non) q
set_option maxHeartbeats 400000 in
theorem ok_is_moveG (L1 : Dt P w F mg base "check_row" ["value"] 3 spChkRow) (L2 : Dt P w F mg base "check_width" ["row", "value"] 2 spChkWidth) (L3 : Dt P w F mg base "is_move_of" ["row", "width", "value"] 3 spIsMvG)
    (Fn : DfN F mg "is_move" ["row", "width", "value"] s_is_move) : Dt P w F mg base "is_move" ["row", "width", "value"] 4 spIsMvG := by
  refine dt_ok Fn sc_is_move (fun ds σ Q E h => ?_) (fun ds σ Q E Wx h => ?_)
  · obtain ⟨r, w, y, rfl, _⟩ := h
    rfl
  · obtain ⟨r, w, y, rfl, hr, w1, w2, wl, ha, q⟩ := h
    have l2 := hr.2.1
    refine tk_cons (ts_expr (te_own L1 (by walk_at "k") (by rfl) ((by walk_at "va" : TVA _ _ _ _ [.str r]).to ⟨r, rfl, hr, ?_⟩)))
    refine tk_cons (ts_expr (te_own L2 (by walk_at "k") (by rfl) ((by walk_at "va" : TVA _ _ _ _ [.str r, .int (w : Int)]).to ⟨r, w, rfl, w1, w2, wl, by omega, ?_⟩)))
    exact tk_ret (tv_own (d := .bl (isMvV r w y)) L3 (by walk_at "k") (by rfl) (by walk_at "va" : TVA _ _ _ _ [.str r, .int (w : Int), y]) (fun q => ⟨r, w, y, rfl, hr, w1, w2, wl, ha, q⟩)) q
end
end Y

/-! ### any value judged by hand whether it is a move -/
namespace Y
open PySem PySem.Spec L2 SX Z
def isI : DT → Bool
  | .int _ => true
  | _ => false
theorem isI_all : ∀ {xs : List DT}, xs.all isI = true → ∃ ns : List Int, xs = ns.map DT.int
  | [], _ => ⟨[], rfl⟩
  | x :: xs, h => by
    rw [List.all_cons, Bool.and_eq_true] at h
    obtain ⟨ns, rfl⟩ := isI_all h.2
    cases x with
    | int i => exact ⟨i :: ns, rfl⟩
    | _ => cases h.1
theorem isI_filter {xs : List DT} (h : xs.all isI = false) : (xs.filter isI).length < xs.length := by
  induction xs with
  | nil => cases h
  | cons x xs ih =>
    rw [List.all_cons] at h
    cases hx : isI x with
    | true =>
      rw [hx, Bool.true_and] at h
      rw [List.filter_cons_of_pos hx, List.length_cons, List.length_cons]
      exact Nat.succ_lt_succ (ih h)
    | false =>
      rw [List.filter_cons_of_neg (by rw [hx]; decide), List.length_cons]
      exact Nat.lt_succ_of_le (List.length_filter_le _ _)
theorem form_int {nm : List Nat} {xs : List DT} (h : xs.all isI = false) : isFormV (.tup (.str nm :: xs)) = false := by
  show (xs.all (fun x => isIntV x 0 GRT) && formTail nm xs) = false
  rw [Bool.and_eq_false_iff]
  refine .inl (Classical.byContradiction fun z => ?_)
  obtain ⟨ns, rfl, _⟩ := all_ints (by simpa using z : xs.all (fun x => isIntV x 0 GRT) = true)
  have : (ns.map DT.int).all isI = true := List.all_eq_true.mpr fun x hx => by
    obtain ⟨i, _, rfl⟩ := List.mem_map.mp hx
    rfl
  rw [this] at h
  cases h
theorem mv_form {r : List Nat} {w : Nat} {y : DT} (h : isFormV y = false) : isMvV r w y = false := by
  unfold isMvV
  rw [h, Bool.false_and]
/-- judged by the row after it -/
theorem aft_tn {r : List Nat} {w : Nat} (hr : r.length ≤ 200) (t : Int) : isMvV r w (.tup [.str (sOf "turn"), .int t]) = !isNon (aftV r w (.tup [.str (sOf "turn"), .int t])) := by
  have e : isMvV r w (.tup [.str (sOf "turn"), .int t]) = (((decide (0 ≤ t) && decide (t ≤ GRT)) && true) && (decide (sOf "turn" = sOf "turn") && decide (0 < t)) && (decide (t < ((r.length + 1 - w : Nat) : Int)) && decide (pc r w 0 = pc r w (r.length + 1 - w)))) := rfl
  have g : (1000 : Int) ≤ GRT := by decide
  rw [e, decide_eq_true rfl]
  by_cases ht : 0 < t ∧ t < szI r w
  · have e2 : aftV r w (.tup [.str (sOf "turn"), .int t]) = aftB r w (.tn t.toNat) := by rw [aftV_tn, if_pos ht]
    have e3 : isNon (aftB r w (.tn t.toNat)) = !decide (pc r w 0 = pc r w (r.length + 1 - w)) := by
      unfold aftB
      show isNon (if decide (pc r w 0 = pc r w (r.length + 1 - w)) = true then _ else _) = _
      cases decide (pc r w 0 = pc r w (r.length + 1 - w)) <;> rfl
    unfold szI at ht
    rw [e2, e3, decide_eq_true (show 0 ≤ t by omega), decide_eq_true (show t ≤ GRT by omega), decide_eq_true ht.1, decide_eq_true ht.2]
    simp
  · have e2 : aftV r w (.tup [.str (sOf "turn"), .int t]) = .non := by rw [aftV_tn, if_neg ht]
    rw [e2]
    unfold szI at ht
    by_cases h0 : 0 < t
    · rw [decide_eq_false (show ¬ t < ((r.length + 1 - w : Nat) : Int) by omega)]
      simp [isNon]
    · rw [decide_eq_false h0]
      simp [isNon]
theorem aft_sw {r : List Nat} {w : Nat} (hr : r.length ≤ 200) (a b c d : Int) : isMvV r w (.tup [.str (sOf "swap"), .int a, .int b, .int c, .int d]) = !isNon (aftV r w (.tup [.str (sOf "swap"), .int a, .int b, .int c, .int d])) := by
  have e : isMvV r w (.tup [.str (sOf "swap"), .int a, .int b, .int c, .int d]) = (((decide (0 ≤ a) && decide (a ≤ GRT)) && ((decide (0 ≤ b) && decide (b ≤ GRT)) && ((decide (0 ≤ c) && decide (c ≤ GRT)) && ((decide (0 ≤ d) && decide (d ≤ GRT)) && true)))) && (decide (sOf "swap" = sOf "swap") && (decide (a < b) && (decide (b ≤ c) && decide (c < d)))) && (decide (d ≤ ((r.length + 1 - w : Nat) : Int)) && (decide (pc r w a.toNat = pc r w c.toNat) && decide (pc r w b.toNat = pc r w d.toNat)))) := rfl
  have g : (1000 : Int) ≤ GRT := by decide
  rw [e, decide_eq_true rfl]
  by_cases ht : 0 ≤ a ∧ a < b ∧ b ≤ c ∧ c < d ∧ d ≤ szI r w
  · have e2 : aftV r w (.tup [.str (sOf "swap"), .int a, .int b, .int c, .int d]) = aftB r w (.sw a.toNat b.toNat c.toNat d.toNat) := by rw [aftV_sw, if_pos ht]
    have e3 : isNon (aftB r w (.sw a.toNat b.toNat c.toNat d.toNat)) = !(decide (pc r w a.toNat = pc r w c.toNat) && decide (pc r w b.toNat = pc r w d.toNat)) := by
      unfold aftB
      show isNon (if (decide (pc r w a.toNat = pc r w c.toNat) && decide (pc r w b.toNat = pc r w d.toNat)) = true then _ else _) = _
      cases (decide (pc r w a.toNat = pc r w c.toNat) && decide (pc r w b.toNat = pc r w d.toNat)) <;> rfl
    unfold szI at ht
    rw [e2, e3, decide_eq_true ht.1, decide_eq_true (show a ≤ GRT by omega), decide_eq_true (show 0 ≤ b by omega), decide_eq_true (show b ≤ GRT by omega), decide_eq_true (show 0 ≤ c by omega), decide_eq_true (show c ≤ GRT by omega), decide_eq_true (show 0 ≤ d by omega), decide_eq_true (show d ≤ GRT by omega), decide_eq_true ht.2.1, decide_eq_true ht.2.2.1, decide_eq_true ht.2.2.2.1, decide_eq_true ht.2.2.2.2]
    simp
  · have e2 : aftV r w (.tup [.str (sOf "swap"), .int a, .int b, .int c, .int d]) = .non := by rw [aftV_sw, if_neg ht]
    rw [e2]
    unfold szI at ht
    by_cases h0 : 0 ≤ a
    · by_cases h1 : a < b
      · by_cases h2 : b ≤ c
        · by_cases h3 : c < d
          · rw [decide_eq_false (show ¬ d ≤ ((r.length + 1 - w : Nat) : Int) by omega)]
            simp [isNon]
          · rw [decide_eq_false h3]
            simp [isNon]
        · rw [decide_eq_false h2]
          simp [isNon]
      · rw [decide_eq_false h1]
        simp [isNon]
    · rw [decide_eq_false h0]
      simp [isNon]
/-- which forms are listed -/
def frm (nm : List Nat) (n : Nat) : Bool := (decide (sOf "swap" = nm) && decide (n = 4)) || (decide (sOf "turn" = nm) && decide (n = 1))
theorem eqv_pair (a b : List Nat) (i j : Int) : PyData.eqv (toPy (.tup [.str a, .int i])) (toPy (.tup [.str b, .int j])) = (decide (a = b) && decide (i = j)) := by
  show PyData.eqv (.tuple [.str (S a), .int i]) (.tuple [.str (S b), .int j]) = _
  unfold PyData.eqv PyData.eqvAll
  have e1 : PyData.eqv (.str (S a)) (.str (S b)) = decide (a = b) := by
    unfold PyData.eqv
    by_cases h : a = b
    · rw [h, decide_eq_true rfl]; simp
    · rw [decide_eq_false h]
      have : S a ≠ S b := fun z => h (by simpa [S] using congrArg (fun x : Str => x.cps.toList) z)
      simpa using this
  have e2 : PyData.eqvAll [.int i] [.int j] = decide (i = j) := by
    unfold PyData.eqvAll PyData.eqv
    by_cases h : i = j
    · rw [h, decide_eq_true rfl]; simp [PyData.eqvAll]
    · rw [decide_eq_false h]; simp [h]
  rw [e1, e2]
theorem in_forms (nm : List Nat) (n : Nat) : ((toPyA [.tup [.str (sOf "swap"), .int 4], .tup [.str (sOf "turn"), .int 1]]).any fun z => PyData.eqv z (toPy (.tup [.str nm, .int (n : Int)]))) = frm nm n := by
  show (PyData.eqv (toPy (.tup [.str (sOf "swap"), .int 4])) (toPy (.tup [.str nm, .int (n : Int)])) || (PyData.eqv (toPy (.tup [.str (sOf "turn"), .int 1])) (toPy (.tup [.str nm, .int (n : Int)])) || false)) = _
  rw [eqv_pair, eqv_pair, Bool.or_false]
  unfold frm
  have e4 : decide ((4 : Int) = (n : Int)) = decide (n = 4) := by
    by_cases h : n = 4
    · rw [h]; rfl
    · rw [decide_eq_false h, decide_eq_false (by omega)]
  have e1 : decide ((1 : Int) = (n : Int)) = decide (n = 1) := by
    by_cases h : n = 1
    · rw [h]; rfl
    · rw [decide_eq_false h, decide_eq_false (by omega)]
  rw [e4, e1]
theorem frm_cases {nm : List Nat} {ns : List Int} (h : frm nm ns.length = true) : (∃ t, nm = sOf "turn" ∧ ns = [t]) ∨ ∃ a b c d, nm = sOf "swap" ∧ ns = [a, b, c, d] := by
  unfold frm at h
  rw [Bool.or_eq_true, Bool.and_eq_true, Bool.and_eq_true, decide_eq_true_eq, decide_eq_true_eq, decide_eq_true_eq, decide_eq_true_eq] at h
  rcases h with ⟨h1, h2⟩ | ⟨h1, h2⟩
  · match ns, h2 with
    | [a, b, c, d], _ => exact .inr ⟨a, b, c, d, h1.symm, rfl⟩
  · match ns, h2 with
    | [t], _ => exact .inl ⟨t, h1.symm, rfl⟩
theorem frm_no {nm : List Nat} {ns : List Int} (h : frm nm ns.length = false) : isFormV (.tup (.str nm :: ns.map DT.int)) = false := by
  unfold frm at h
  rw [Bool.or_eq_false_iff] at h
  show ((ns.map DT.int).all (fun x => isIntV x 0 GRT) && formTail nm (ns.map DT.int)) = false
  rw [Bool.and_eq_false_iff]
  refine .inr ?_
  match ns, h with
  | [], _ => rfl
  | [t], h =>
    have : ¬ nm = sOf "turn" := fun z => by rw [z] at h; exact absurd h.2 (by simp)
    show (decide (nm = sOf "turn") && _) = false
    rw [decide_eq_false this]
    rfl
  | [_, _], _ => rfl
  | [_, _, _], _ => rfl
  | [a, b, c, d], h =>
    have : ¬ nm = sOf "swap" := fun z => by rw [z] at h; exact absurd h.1 (by simp)
    show (decide (nm = sOf "swap") && _) = false
    rw [decide_eq_false this]
    rfl
  | _ :: _ :: _ :: _ :: _ :: _, _ => rfl
def spIsMvH : TSpec := fun ds σ Q E => ∃ (r : List Nat) (w : Nat) (y : DT), ds = [.str r, .int (w : Int), y] ∧ r.length ≤ 200 ∧ 1 ≤ w ∧ w ≤ 12 ∧ w ≤ r.length ∧ MvArg y ∧ Q (.bl (isMvV r w y)) σ
section
variable {P : Program} {w : World} {F : PySem.W.Frag} {mg : Str → Option Value} {base : Heap}
set_option maxHeartbeats 2000000 in
theorem ok_isMvH (sm : ∃ ob, base.get? sysModules = some ob) (LA : Dt P w F mg base "_law_after" ["_law_letters_here", "_law_wide", "_law_move"] 2 spAftG) (b1 : mg "isinstance" = none) (b2 : mg "tuple" = none) (b3 : mg "len" = none) (b4 : mg "str" = none) (b5 : mg "int" = none) (b6 : mg "bool" = none)
    (Fn : DfN F mg "_law_is_move" ["_law_letters_here", "_law_wide", "_law_value"] s_law_is_move) : Dt P w F mg base "_law_is_move" ["_law_letters_here", "_law_wide", "_law_value"] 3 spIsMvH := by
  refine dt_ok Fn sc_law_is_move (fun ds σ Q E h => ?_) (fun ds σ Q E Wx h => ?_)
  · obtain ⟨r, w, y, rfl, _⟩ := h
    rfl
  · obtain ⟨r, w, y, rfl, l2, w1, w2, wl, ha, q⟩ := h
    obtain ⟨T, hT, mem⟩ := bi_ty ha.b
    rcases kit_tup T mem with rfl | hk
    · obtain ⟨xs, rfl⟩ : ∃ xs, y = .tup xs := by
        have := hT (fun _ => none)
        cases y with
        | tup xs => exact ⟨xs, rfl⟩
        | _ => first | (simp [tyT] at this; done) | (cases ha.b; done)
      obtain ⟨hb, hl, hsh⟩ := ha.t xs rfl
      have iT : ∀ {ρ : EnvT} {nm : Str} {p1 p2 p3 p4 : Pos} {ct : Ct}, GlS ct "isinstance" → ct.mg "isinstance" = none → TV ct (.Name nm p4) ρ σ (.tup xs) → TV ct (.Name "tuple" p3) ρ σ (.ty "tuple") → TV ct (.Call (.Name "isinstance" p1) [.Name nm p4, .Name "tuple" p3] [] p2) ρ σ (.bl true) := fun h1 h2 h3 h4 => tv_callB h1 h2 (by walk_at "bt") (tva_cons h3 (tva_cons h4 tva_nil)) (pf_isi (r := true) rfl (by decide +kernel))
      have ln : ∀ {ct : Ct} {ρ : EnvT} {nm : Str} {p1 p2 p3 : Pos}, GlS ct "len" → ct.mg "len" = none → TV ct (.Name nm p3) ρ σ (.tup xs) → TV ct (.Call (.Name "len" p1) [.Name nm p3] [] p2) ρ σ (.int (xs.length : Int)) := fun h1 h2 h3 => tv_callB h1 h2 (by walk_at "bt") (tva_cons h3 tva_nil) pf_lenT
      by_cases hl2 : xs.length < 2
      · have e0 : isMvV r w (.tup xs) = false := mv_form (by
          match xs, hl2 with
          | [], _ => rfl
          | [x], _ => cases x <;> rfl)
        rw [e0] at q
        refine tk_ifT (tb_W (tbw_or (r := false) (s := true) (TB.cast (tb_not (tb_val (iT (by rfl) (by walk_at "as") (by walk_at "v") (by walk_at "v")))) rfl) (fun _ => tbw_or (r := true) (s := true) (TB.cast (tb_cmp (ln (by rfl) (by walk_at "as") (by walk_at "v")) (by walk_at "v" : TV _ _ _ _ (.int 2)) po_ltI (by rfl)) (decide_eq_true (by omega))) (fun z => nomatch z)))) ?_
        exact tk_ret (by walk_at "v" : TV _ _ _ _ (.bl false)) q
      have cut : cutT xs (some 1) none = xs.drop 1 := cut_from (i := 1) (x := 1) rfl
      have npl : ¬ (HT.sIx xs.length 0 (some 1) = 0 ∧ HT.sIx xs.length xs.length none = xs.length) := fun z => by
        have := z.1
        rw [show (some (1 : Int)) = some ((1 : Nat) : Int) from rfl, HT.sIx_nat] at this
        omega
      obtain ⟨x, xs', rfl⟩ : ∃ x xs', xs = x :: xs' := by
        cases xs with
        | nil => exact absurd (by decide) hl2
        | cons x xs' => exact ⟨x, xs', rfl⟩
      have cut : cutT (x :: xs') (some 1) none = xs' := cut
      have hx := hb x (by simp)
      obtain ⟨T2, hT2, mem2⟩ := bi_ty hx
      have g0 : ∀ {ρ : EnvT} {e : Expr} {k : Nat} {p1 p2 : Pos} {ct : Ct}, TV ct e ρ σ (.tup (x :: xs')) → TV ct (.Subscript e (.Constant (.int 0) k p1) p2) ρ σ x := fun h1 => tv_sub h1 tv_int (pi_tup (Z.at_nat (j := 0) rfl rfl))
      rcases kit_str T2 mem2 with rfl | hk2
      · obtain ⟨nm, rfl⟩ : ∃ nm, x = .str nm := by
          have := hT2 (fun _ => none)
          cases x with
          | str nm => exact ⟨nm, rfl⟩
          | _ => first | (simp [tyT] at this; done) | (cases hx; done)
        refine tk_ifF (TB.cast (tb_W (tbw_or (r := false) (s := false) (TB.cast (tb_not (tb_val (iT (by rfl) (by walk_at "as") (by walk_at "v") (by walk_at "v")))) rfl) (fun _ => tbw_or (r := false) (s := false) (TB.cast (tb_cmp (ln (by rfl) (by walk_at "as") (by walk_at "v")) (by walk_at "v" : TV _ _ _ _ (.int 2)) po_ltI (by rfl)) (decide_eq_false (by omega))) (fun _ => tbw_or1 (TB.cast (tb_not (tb_val (tv_callB (by rfl) (by walk_at "as") (by walk_at "bt") (tva_cons (g0 (by walk_at "v")) (tva_cons (by walk_at "v") tva_nil)) (pf_isi (r := true) (hT2 _) (by decide +kernel))))) rfl))))) rfl) (tk_nil ?_)
        have hbx : ∀ x ∈ xs', bi x = true := fun z hz => hb z (List.mem_cons_of_mem _ hz)
        have hlx : xs'.length ≤ 100 := by rw [List.length_cons] at hl; omega
        refine tk_setLcV (i := 3) (α := DT) (l := xs') (g := id) (f := id) (tt := isI) (own := [("_law_one", 4)]) (t := .nm 4) (by rfl) (by rfl) (by rfl) (by decide +kernel) (by exact Nat.le_of_ble_eq_true rfl) (by walk_at "tgt") (by walk_at "blk") (by decide) (tvi_tup (TV.cast (y := .tup (xs'.map id)) (tv_slice (by walk_at "v" : TV _ _ _ _ (.tup (.str nm :: xs'))) (to_some (by walk_at "v" : TV _ _ _ _ (.int 1))) to_none (pl_tup npl)) (by rw [cut, List.map_id]))) (by omega) (fun _ _ => rfl)
          (fun z hz => by
            have bz := hbx z hz
            cases z with
            | int i => exact ⟨TB.cast (tb_W (tbw_and (r := true) (s := true) (tb_val (tv_callB (by rfl) (by walk_at "as") (by walk_at "bt") (by walk_at "va" : TVA _ _ _ _ [.int i, .ty "int"]) (pf_isi (r := true) (by rfl) (by decide +kernel)))) (fun _ => tbw_and1 (TB.cast (tb_not (tb_val (tv_callB (by rfl) (by walk_at "as") (by walk_at "bt") (by walk_at "va" : TVA _ _ _ _ [.int i, .ty "bool"]) (pf_isi (r := false) (by rfl) (by decide +kernel))))) rfl)))) rfl, fun _ => by walk_at "v"⟩
            | bl i => exact ⟨TB.cast (tb_W (tbw_and (r := true) (s := false) (tb_val (tv_callB (by rfl) (by walk_at "as") (by walk_at "bt") (by walk_at "va" : TVA _ _ _ _ [.bl i, .ty "int"]) (pf_isi (r := true) (by rfl) (by decide +kernel)))) (fun _ => tbw_and1 (TB.cast (tb_not (tb_val (tv_callB (by rfl) (by walk_at "as") (by walk_at "bt") (by walk_at "va" : TVA _ _ _ _ [.bl i, .ty "bool"]) (pf_isi (r := true) (by rfl) (by decide +kernel))))) rfl)))) rfl, fun z => (nomatch z)⟩
            | non => exact ⟨TB.cast (tb_W (tbw_and (r := false) (s := false) (tb_val (tv_callB (by rfl) (by walk_at "as") (by walk_at "bt") (by walk_at "va" : TVA _ _ _ _ [.non, .ty "int"]) (pf_isi (r := false) (by rfl) (by decide +kernel)))) (fun z => nomatch z))) rfl, fun z => (nomatch z)⟩
            | str i => exact ⟨TB.cast (tb_W (tbw_and (r := false) (s := false) (tb_val (tv_callB (by rfl) (by walk_at "as") (by walk_at "bt") (by walk_at "va" : TVA _ _ _ _ [.str i, .ty "int"]) (pf_isi (r := false) (by rfl) (by decide +kernel)))) (fun z => nomatch z))) rfl, fun z => (nomatch z)⟩
            | lst i => exact ⟨TB.cast (tb_W (tbw_and (r := false) (s := false) (tb_val (tv_callB (by rfl) (by walk_at "as") (by walk_at "bt") (by walk_at "va" : TVA _ _ _ _ [.lst i, .ty "int"]) (pf_isi (r := false) (by rfl) (by decide +kernel)))) (fun z => nomatch z))) rfl, fun z => (nomatch z)⟩
            | tup i => exact ⟨TB.cast (tb_W (tbw_and (r := false) (s := false) (tb_val (tv_callB (by rfl) (by walk_at "as") (by walk_at "bt") (by walk_at "va" : TVA _ _ _ _ [.tup i, .ty "int"]) (pf_isi (r := false) (by rfl) (by decide +kernel)))) (fun z => nomatch z))) rfl, fun z => (nomatch z)⟩
            | dct i => exact ⟨TB.cast (tb_W (tbw_and (r := false) (s := false) (tb_val (tv_callB (by rfl) (by walk_at "as") (by walk_at "bt") (by walk_at "va" : TVA _ _ _ _ [.dct i, .ty "int"]) (pf_isi (r := false) (by rfl) (by decide +kernel)))) (fun z => nomatch z))) rfl, fun z => (nomatch z)⟩
            | _ => cases bz) ?_
        rw [List.map_id]
        have nn : ∀ {l : List DT} {ct : Ct} {ρ : EnvT} {nm : Str} {p1 p2 p3 : Pos}, GlS ct "len" → ct.mg "len" = none → TV ct (.Name nm p3) ρ σ (.lst l) → TV ct (.Call (.Name "len" p1) [.Name nm p3] [] p2) ρ σ (.int (l.length : Int)) := fun h1 h2 h3 => tv_callB h1 h2 (by walk_at "bt") (tva_cons h3 tva_nil) (pf_lenL lsT_l)
        cases hall : xs'.all isI with
        | false =>
          have lf := isI_filter hall
          rw [mv_form (form_int hall)] at q
          refine tk_ifT (tb_W (tbw_or (r := true) (s := true) (TB.cast (tb_cmp (nn (l := xs'.filter isI) (by rfl) (by walk_at "as") (by walk_at "v")) (tv_bin (ln (by rfl) (by walk_at "as") (by walk_at "v")) (by walk_at "v" : TV _ _ _ _ (.int 1)) po_subI) po_neI (by rfl)) (by rw [List.length_cons, Bool.not_eq_true', decide_eq_false_iff_not]; omega)) (fun z => nomatch z))) ?_
          exact tk_ret (by walk_at "v" : TV _ _ _ _ (.bl false)) q
        | true =>
          have ff : xs'.filter isI = xs' := List.filter_eq_self.mpr fun z hz => List.all_eq_true.mp hall z hz
          rw [ff]
          obtain ⟨ns, rfl⟩ := isI_all hall
          have sh1 : Sh 2 (.tup [.str nm, .int (ns.length : Int)]) := fun x hx => by
            simp only [List.mem_cons, List.not_mem_nil, or_false] at hx
            rcases hx with rfl | rfl
            · exact (hsh (.str nm) List.mem_cons_self)
            · exact trivial
          have sh2 : Sh 3 (.lst [.tup [.str (sOf "swap"), .int 4], .tup [.str (sOf "turn"), .int 1]]) := fun x hx => by
            simp only [List.mem_cons, List.not_mem_nil, or_false] at hx
            have e1 : (sOf "swap").all (fun k => decide (k < 1114112)) = true := by decide +kernel
            have e2 : (sOf "turn").all (fun k => decide (k < 1114112)) = true := by decide +kernel
            rcases hx with rfl | rfl <;> intro y hy <;> simp only [List.mem_cons, List.not_mem_nil, or_false] at hy <;> rcases hy with rfl | rfl
            · exact e1
            · exact trivial
            · exact e2
            · exact trivial
          refine tk_ifG (v := !frm nm ns.length) (TB.cast (tb_W (tbw_or (r := false) (TB.cast (tb_cmp (TV.castI (j := (ns.length : Int)) (nn (by rfl) (by walk_at "as") (by walk_at "v")) (by rw [List.length_map])) (tv_bin (ln (by rfl) (by walk_at "as") (by walk_at "v")) (by walk_at "v" : TV _ _ _ _ (.int 1)) po_subI) po_neI (by rfl)) (by rw [List.length_cons, List.length_map, Bool.not_eq_false', decide_eq_true_iff]; omega)) (fun _ => tbw_or1 (tb_cmp (tv_tup (tva_cons (g0 (by walk_at "v")) (tva_cons (TV.castI (j := (ns.length : Int)) (nn (by rfl) (by walk_at "as") (by walk_at "v")) (by rw [List.length_map])) tva_nil))) (by walk_at "v" : TV _ _ _ _ (.lst [.tup [.str (sOf "swap"), .int 4], .tup [.str (sOf "turn"), .int 1]])) (po_notInT sm sh1 sh2 (by decide) (by decide)) (by rfl))))) (by rw [in_forms]; rfl)) (fun z => ?_) (fun z => ?_)
          · have hf : frm nm ns.length = false := by simpa using z
            rw [mv_form (frm_no hf)] at q
            exact tk_ret (by walk_at "v" : TV _ _ _ _ (.bl false)) q
          · have hf : frm nm ns.length = true := by simpa using z
            rcases frm_cases hf with ⟨t, rfl, rfl⟩ | ⟨a, b, c, d, rfl, rfl⟩
            · rw [show isMvV r w (.tup (.str (sOf "turn") :: [t].map DT.int)) = _ from aft_tn l2 t] at q
              exact tk_ret (tv_cmp (tv_own (d := aftV r w (.tup [.str (sOf "turn"), .int t])) LA (by walk_at "k") (by rfl) (by walk_at "va" : TVA _ _ _ _ [.str r, .int (w : Int), .tup [.str (sOf "turn"), .int t]]) (fun q => ⟨r, w, _, rfl, l2, w1, w2, wl, .inl ⟨t, rfl⟩, q⟩)) (by walk_at "v" : TV _ _ _ _ .non) po_notN (by rfl)) q
            · rw [show isMvV r w (.tup (.str (sOf "swap") :: [a, b, c, d].map DT.int)) = _ from aft_sw l2 a b c d] at q
              exact tk_ret (tv_cmp (tv_own (d := aftV r w (.tup [.str (sOf "swap"), .int a, .int b, .int c, .int d])) LA (by walk_at "k") (by rfl) (by walk_at "va" : TVA _ _ _ _ [.str r, .int (w : Int), .tup [.str (sOf "swap"), .int a, .int b, .int c, .int d]]) (fun q => ⟨r, w, _, rfl, l2, w1, w2, wl, .inr ⟨a, b, c, d, rfl⟩, q⟩)) (by walk_at "v" : TV _ _ _ _ .non) po_notN (by rfl)) q
      · have e0 : isMvV r w (.tup (x :: xs')) = false := mv_form (by
          cases x with
          | str nm => exact absurd (hT2 (fun _ => none)) (fun z => by cases z; exact absurd hk2 (by decide +kernel))
          | _ => rfl)
        rw [e0] at q
        refine tk_ifT (TB.cast (tb_W (tbw_or (r := false) (s := true) (TB.cast (tb_not (tb_val (iT (by rfl) (by walk_at "as") (by walk_at "v") (by walk_at "v")))) rfl) (fun _ => tbw_or (r := false) (s := true) (TB.cast (tb_cmp (ln (by rfl) (by walk_at "as") (by walk_at "v")) (by walk_at "v" : TV _ _ _ _ (.int 2)) po_ltI (by rfl)) (decide_eq_false (by omega))) (fun _ => tbw_or1 (TB.cast (tb_not (tb_val (tv_callB (by rfl) (by walk_at "as") (by walk_at "bt") (tva_cons (g0 (by walk_at "v")) (tva_cons (by walk_at "v") tva_nil)) (pf_isi (r := false) (hT2 _) hk2)))) rfl))))) rfl) ?_
        exact tk_ret (by walk_at "v" : TV _ _ _ _ (.bl false)) q
    · have e0 : isMvV r w y = false := mv_form (by
        cases y with
        | tup xs => exact absurd (hT (fun _ => none)) (fun z => by cases z; exact absurd hk (by decide +kernel))
        | _ => rfl)
      rw [e0] at q
      refine tk_ifT (TB.cast (tb_W (tbw_or (r := true) (s := true) (TB.cast (tb_not (tb_val (tv_callB (by rfl) (by walk_at "as") (by walk_at "bt") (by walk_at "va" : TVA _ _ _ _ [y, .ty "tuple"]) (pf_isi (r := false) (hT _) hk)))) rfl) (fun z => absurd z (by decide)))) rfl) ?_
      exact tk_ret (by walk_at "v" : TV _ _ _ _ (.bl false)) q
end
end Y

/-! ### leaves of bounded size -/
namespace Y
open PySem PySem.Spec L2 SX Z
def Lf : DT → Prop
  | .non => True
  | .bl _ => True
  | .int i => i.natAbs < 10 ^ 61
  | .str s => s.length ≤ 200 ∧ s.all (fun k => decide (k < 1114112)) = true
  | _ => False
theorem Lf.bi {x : DT} (h : Lf x) : bi x = true := by cases x <;> first | rfl | exact h.elim
theorem Lf.sh {x : DT} {n : Nat} (h : Lf x) : Sh n x := by
  cases x with
  | str s => cases n <;> exact h.2
  | non => cases n <;> trivial
  | bl => cases n <;> trivial
  | int => cases n <;> trivial
  | _ => exact h.elim
theorem Lf.gd {x : DT} {n : Nat} (h : Lf x) : Gd n 203 x := by
  cases x with
  | str s => exact Gd.str (Nat.le_trans h.1 (by decide)) h.2
  | non => exact .non
  | bl b => exact .bl b
  | int i => exact .int h (by decide)
  | _ => exact h.elim
theorem MvArg.lf {xs : List DT} (h : ∀ x ∈ xs, Lf x) (hl : xs.length ≤ 100) : MvArg (.tup xs) := ⟨rfl, fun ys e => by
  cases e
  exact ⟨fun x hx => (h x hx).bi, hl, fun x hx => (h x hx).sh⟩⟩
theorem MvArg.nt {y : DT} (h : bi y = true) (n : ∀ xs, y ≠ .tup xs) : MvArg y := ⟨h, fun xs e => absurd e (n xs)⟩
theorem gdA_lf {xs : List DT} {n : Nat} (h : ∀ x ∈ xs, Lf x) (hl : xs.length ≤ 6) : GdA n 1300 xs := (GdA.all (w := 203) fun x hx => (h x hx).gd).le (by have := Nat.mul_le_mul_right (203 + 1) hl; omega)
theorem lf_sw : Lf (.str (sOf "swap")) := ⟨by decide +kernel, by decide +kernel⟩
theorem lf_tn : Lf (.str (sOf "turn")) := ⟨by decide +kernel, by decide +kernel⟩
theorem lf_i {i : Int} (h : i.natAbs ≤ 1000) : Lf (.int i) := by
  show i.natAbs < 10 ^ 61
  exact Nat.lt_of_le_of_lt h (by decide)
/-- the leaves of a written list -/
def lfB : DT → Bool
  | .non => true
  | .bl _ => true
  | .int i => decide (i.natAbs < 10 ^ 61)
  | .str s => decide (s.length ≤ 200) && s.all (fun k => decide (k < 1114112))
  | _ => false
theorem lfB_ok {xs : List DT} (h : xs.all lfB = true) : ∀ x ∈ xs, Lf x := fun x hx => by
  have := List.all_eq_true.mp h x hx
  cases x with
  | int i => exact (of_decide_eq_true (p := i.natAbs < 10 ^ 61) this : i.natAbs < 10 ^ 61)
  | str s =>
    have h2 := Bool.and_eq_true_iff.mp (show (decide (s.length ≤ 200) && s.all (fun k => decide (k < 1114112))) = true from this)
    exact ⟨of_decide_eq_true h2.1, h2.2⟩
  | non => trivial
  | bl b => trivial
  | _ => cases this
/-- no move of this row -/
structure NoMv (r : List Nat) (w : Nat) (y : DT) : Prop where
  a : MvArg y
  n : isMvV r w y = false
  g : Gd 2 1300 y
end Y

/-! ### moves may be asked (plain) -/
namespace Y
open PySem PySem.Spec L2 SX Z
theorem MvArg.mv (m : Mv) : MvArg (mvT m) := ⟨rfl, fun xs h => by
  cases h
  refine ⟨fun x hx => ?_, ?_, fun x hx => ?_⟩
  · rcases List.mem_cons.mp hx with rfl | hx
    · rfl
    · obtain ⟨i, _, rfl⟩ := List.mem_map.mp hx; rfl
  · have := mvNs_len m
    rw [List.length_cons, List.length_map]; omega
  · rcases List.mem_cons.mp hx with rfl | hx
    · exact sh_mv m (.str (mvNm m)) List.mem_cons_self
    · obtain ⟨i, _, rfl⟩ := List.mem_map.mp hx
      exact trivial⟩
end Y

/-! ### k13: all swaps and turns -/
namespace Y
open PySem PySem.Spec L2 SX Z
/-- of bounded size, small numbers counted as such -/
structure Gf (n w : Nat) (x : DT) : Prop where
  f : GdF n w (toPy x)
  p : plain x = true
theorem Gd.gf {n w : Nat} {x : DT} (h : Gd n w x) : Gf n w x := ⟨h.f, h.plain⟩
theorem GdF.le {n m a b : Nat} {d : PyData} (h : GdF n a d) (h1 : n ≤ m) (h2 : a ≤ b) : GdF m b d := ⟨Nat.le_trans h.dep h1, Nat.le_trans h.wt h2, h.sh, h.lv⟩
theorem Gf.le {n m a b : Nat} {x : DT} (h : Gf n a x) (h1 : n ≤ m) (h2 : a ≤ b) : Gf m b x := ⟨h.f.le h1 h2, h.p⟩
theorem gfA {n w : Nat} : ∀ {xs : List DT}, (∀ x ∈ xs, Gf n w x) → PyData.depthAll (toPyA xs) ≤ n ∧ PyData.weightAll (toPyA xs) ≤ xs.length * (w + 1) ∧ PyData.showableAll (toPyA xs) = true ∧ PyData.leavesShortAll 63 (toPyA xs) = true ∧ plainA xs = true
  | [], _ => ⟨Nat.zero_le _, Nat.zero_le _, rfl, rfl, rfl⟩
  | x :: xs, h => by
    obtain ⟨⟨a1, a2, a3, a4⟩, a5⟩ := h x List.mem_cons_self
    obtain ⟨b1, b2, b3, b4, b5⟩ := gfA fun y hy => h y (List.mem_cons_of_mem _ hy)
    simp only [toPyA, PyData.depthAll, PyData.weightAll, PyData.showableAll, PyData.leavesShortAll, plainA, a3, a4, a5, b3, b4, b5, Bool.and_self, List.length_cons]
    exact ⟨Nat.max_le.mpr ⟨a1, b1⟩, by rw [Nat.add_mul, Nat.one_mul]; omega, trivial, trivial, trivial⟩
theorem gf_lst {n w : Nat} {xs : List DT} (h : ∀ x ∈ xs, Gf n w x) : Gf (n + 1) (xs.length * (w + 1)) (.lst xs) := by
  obtain ⟨h1, h2, h3, h4, h5⟩ := gfA h
  exact ⟨⟨Nat.succ_le_succ h1, h2, h3, h4⟩, h5⟩
theorem gf_tup {n w : Nat} {xs : List DT} (h : ∀ x ∈ xs, Gf n w x) : Gf (n + 1) (xs.length * (w + 1)) (.tup xs) := by
  obtain ⟨h1, h2, h3, h4, h5⟩ := gfA h
  exact ⟨⟨Nat.succ_le_succ h1, h2, h3, h4⟩, h5⟩
theorem gf_sm {n : Nat} {i : Int} (h : i.natAbs < 16) : Gf n 4 (.int i) := by
  have hl : i.natAbs.log2 < 4 := by
    by_cases z : i.natAbs = 0
    · rw [z]; decide
    · exact (Nat.log2_lt z).mpr h
  refine ⟨⟨Nat.zero_le _, ?_, decide_eq_true (by omega), decide_eq_true (shown_int_big (Nat.lt_trans h (by decide)))⟩, rfl⟩
  show (if (i == 0) = true then 0 else i.natAbs.log2 + 1) ≤ 4
  split <;> omega
theorem pf_reprF {c : Ct} {σ : Sg} {d : DT} {n w : Nat} (sm : ∃ ob, c.base.get? sysModules = some ob) (hb : isBox d = true) (g : Gf n w d) (hn : n ≤ 64) (hw : w ≤ 250000) : POF c (.builtin "repr") [d] σ (.str (reprT d)) := by
  have f := g.f
  refine pf_repr sm (isBox_ref hb) g.p f.sh (Nat.le_trans f.dep hn) ?_
  have := PyData.shown_le 63 (by decide) (toPy d) f.lv
  have h2 : (63 + 2) * (toPy d).weight ≤ (63 + 2) * 250000 := Nat.mul_le_mul (Nat.le_refl _) (Nat.le_trans f.wt hw)
  rw [sizeLine_eq]
  omega
theorem gf_mv (m : Mv) (h : ∀ i ∈ mvNs m, i.natAbs < 16) : Gf 1 25 (mvT m) := by
  have hn : ∀ x ∈ DT.str (mvNm m) :: (mvNs m).map DT.int, Gf 0 4 x := fun x hx => by
    rcases List.mem_cons.mp hx with rfl | hx
    · cases m with
      | sw a b c d => exact (Gd.str (s := sOf "swap") (by decide +kernel) (by decide +kernel)).gf
      | tn t => exact (Gd.str (s := sOf "turn") (by decide +kernel) (by decide +kernel)).gf
    · obtain ⟨i, hi, rfl⟩ := List.mem_map.mp hx
      exact gf_sm (h i hi)
  exact (gf_tup hn).le (Nat.le_refl _) (by cases m <;> exact Nat.le_of_ble_eq_true rfl)
theorem rngQ {c : Ct} [Calm c] {ρ : EnvT} {σ : Sg} {a b : Expr} {tg : Expr} {p pos : Pos} {m n k : Nat} (hg : GlS c "range") (hm : c.mg "range" = none) (ha : TV c a ρ σ (.int (m : Int))) (hb : TV c b ρ σ (.int (n : Int))) (hk : k = n - m) (h1 : m ≤ 1000000) (h2 : n ≤ 1000000)
    (hs : ∀ env, starEach [a, b] env = [(false, eval a env), (false, eval b env)] := by intro _; rfl) (hs2 : ∀ env, starEach [b] env = [(false, eval b env)] := by intro _; rfl) : TVI c tg (.Call (.Name "range" p) [a, b] [] pos) ρ σ ((List.range k).map fun i : Nat => DT.int ((m + i : Nat) : Int)) := ⟨fun {Q E} q => ti_range2 hg hm (te_v ha (te_v hb ⟨_, _, rfl, rfl, ⟨by omega, by omega, by omega, by omega⟩, by
  rw [show ((n : Int) - (m : Int)).toNat = k by omega]
  have e : ((List.range k).map fun i : Nat => DT.int ((m : Int) + (i : Int))) = (List.range k).map fun i : Nat => DT.int ((m + i : Nat) : Int) := List.map_congr_left fun i _ => by rw [Int.natCast_add]
  rw [e]
  exact q⟩)) hs hs2⟩
def spAll13 : TSpec := fun ds σ Q E => ∃ n : Nat, ds = [.int (n : Int)] ∧ n ≤ 9 ∧ ∀ ys, (∀ y ∈ ys, MvArg y ∧ Gf 1 25 y) → ys.length ≤ 8200 → Q (.lst ys) σ
section
variable {P : Program} {w : World} {F : PySem.W.Frag} {mg : Str → Option Value} {base : Heap}
set_option maxHeartbeats 1000000 in
theorem ok_all13 (b1 : mg "range" = none) (Fn : DfN F mg "_law_all" ["_law_size"] s_law_all) : Dt P w F mg base "_law_all" ["_law_size"] 1 spAll13 := by
  refine dt_ok Fn sc_law_all (fun ds σ Q E h => ?_) (fun ds σ Q E Wx h => ?_)
  · obtain ⟨n, rfl, _⟩ := h
    rfl
  · obtain ⟨n, rfl, n9, q⟩ := h
    have okm : ∀ m : Mv, (∀ i ∈ mvNs m, 0 ≤ i ∧ i ≤ 12) → MvArg (mvT m) ∧ Gf 1 25 (mvT m) := fun m h => ⟨MvArg.mv m, gf_mv m fun i hi => by have := h i hi; omega⟩
    refine tk_cons (ts_setLc (i := 1) (own := [("_law_r", 5)]) (t := .nm 5) (by rfl) (by rfl) (by rfl) (by decide +kernel) (by walk_at "tgt") (by walk_at "blk") (by decide)
      ((rngQ (m := 0) (n := n + 2) (k := n + 2) (by rfl) (by walk_at "as") (TV.castI (j := ((0 : Nat) : Int)) (by walk_at "v" : TV _ _ _ _ (.int 0)) rfl) (TV.castI (j := ((n + 2 : Nat) : Int)) (tv_bin (by walk_at "v" : TV _ _ _ _ (.int (n : Int))) (by walk_at "v" : TV _ _ _ _ (.int 2)) po_addI) (by omega)) (by omega) (by omega) (by omega)).to ?_))
    refine lcNeed_of (α := Nat) (l := List.range (n + 2)) (g := fun i => .int ((0 + i : Nat) : Int)) (f := fun i => .tup [.str (sOf "turn"), .int ((0 + i : Nat) : Int)]) (tt := fun _ => true) (by rw [List.length_range]; omega) (fun _ _ => rfl) (fun i hi => ⟨rfl, by walk_at "v"⟩) fun D hD => ?_
    rw [List.filter_eq_self.mpr (fun _ _ => rfl)]
    refine tk_cons (ts_for (t := .nm 2) (by walk_at "tgt") (ti_range1 (by rfl) (by walk_at "as") (te_v (by walk_at "v" : TV _ _ _ _ (.int (n : Int))) ⟨_, rfl, by omega, ?_⟩)))
    rw [Int.toNat_natCast]
    refine ⟨fun i ρ1 σ2 => ∃ (xs : List DT) (a2 a3 a4 : Option DT), σ2 = su σ D (.lst xs) ∧ (∀ y ∈ xs, MvArg y ∧ Gf 1 25 y) ∧ xs.length ≤ 11 + i * 900 ∧ ρ1 = [some (.int (n : Int)), some (.ref D), a2, a3, a4, none, none], ⟨_, none, none, none, rfl, fun y hy => ?_, by rw [List.length_map, List.length_range]; omega, rfl⟩, ?_, ?_⟩
    · obtain ⟨i, hi, rfl⟩ := List.mem_map.mp hy
      have := List.mem_range.mp hi
      exact okm (.tn (0 + i)) fun j hj => by
        rw [List.mem_singleton.mp hj]
        omega
    · rintro i d ρ1 σ2 hd ⟨xs, a2, a3, a4, rfl, ox, lx, rfl⟩
      rw [List.getElem?_map] at hd
      obtain ⟨a, ha, rfl⟩ := Option.map_eq_some_iff.mp hd
      obtain ⟨h1, h2⟩ := List.getElem?_eq_some_iff.mp ha
      rw [List.length_range] at h1
      rw [List.getElem_range] at h2
      subst h2
      refine ⟨_, rfl, ?_⟩
      refine tk_cons (ts_for (t := .nm 3) (by walk_at "tgt") ((rngQ (m := i + 1) (n := n + 1) (k := n - i) (by rfl) (by walk_at "as") (TV.castI (j := ((i + 1 : Nat) : Int)) (tv_bin (by walk_at "v" : TV _ _ _ _ (.int (i : Int))) (by walk_at "v" : TV _ _ _ _ (.int 1)) po_addI) (by omega)) (TV.castI (j := ((n + 1 : Nat) : Int)) (tv_bin (by walk_at "v" : TV _ _ _ _ (.int (n : Int))) (by walk_at "v" : TV _ _ _ _ (.int 1)) po_addI) (by omega)) (by omega) (by omega) (by omega)).to ?_))
      refine ⟨fun i2 ρ1 σ2 => ∃ (xs : List DT) (a3 a4 : Option DT), σ2 = su σ D (.lst xs) ∧ (∀ y ∈ xs, MvArg y ∧ Gf 1 25 y) ∧ xs.length ≤ 11 + i * 900 + i2 * 100 ∧ ρ1 = [some (.int (n : Int)), some (.ref D), some (.int (i : Int)), a3, a4, none, none], ⟨xs, _, _, rfl, ox, by omega, rfl⟩, ?_, ?_⟩
      · rintro i2 d ρ1 σ2 hd ⟨xs, a3, a4, rfl, ox, lx, rfl⟩
        rw [List.getElem?_map] at hd
        obtain ⟨b', hb, rfl⟩ := Option.map_eq_some_iff.mp hd
        obtain ⟨h3, h4⟩ := List.getElem?_eq_some_iff.mp hb
        rw [List.length_range] at h3
        rw [List.getElem_range] at h4
        subst h4
        obtain ⟨b, hb⟩ : ∃ b, i + 1 + i2 = b := ⟨_, rfl⟩
        rw [hb]
        refine ⟨_, rfl, ?_⟩
        refine tk_cons (ts_for (t := .nm 4) (by walk_at "tgt") ((rngQ (m := b) (n := n + 1) (k := n + 1 - b) (by rfl) (by walk_at "as") (by walk_at "v" : TV _ _ _ _ (.int (b : Int))) (TV.castI (j := ((n + 1 : Nat) : Int)) (tv_bin (by walk_at "v" : TV _ _ _ _ (.int (n : Int))) (by walk_at "v" : TV _ _ _ _ (.int 1)) po_addI) (by omega)) (by omega) (by omega) (by omega)).to ?_))
        refine ⟨fun i3 ρ1 σ2 => ∃ (xs : List DT) (a4 : Option DT), σ2 = su σ D (.lst xs) ∧ (∀ y ∈ xs, MvArg y ∧ Gf 1 25 y) ∧ xs.length ≤ 11 + i * 900 + i2 * 100 + i3 * 11 ∧ ρ1 = [some (.int (n : Int)), some (.ref D), some (.int (i : Int)), some (.int (b : Int)), a4, none, none], ⟨xs, _, rfl, ox, by omega, rfl⟩, ?_, ?_⟩
        · rintro i3 d ρ1 σ2 hd ⟨xs, a4, rfl, ox, lx, rfl⟩
          rw [List.getElem?_map] at hd
          obtain ⟨c', hc', rfl⟩ := Option.map_eq_some_iff.mp hd
          obtain ⟨h5, h6⟩ := List.getElem?_eq_some_iff.mp hc'
          rw [List.length_range] at h5
          rw [List.getElem_range] at h6
          subst h6
          obtain ⟨c, hc⟩ : ∃ c, b + i3 = c := ⟨_, rfl⟩
          rw [hc]
          refine ⟨_, rfl, ?_⟩
          refine tk_cons (ts_expr (te_meth PySem.F.plainAttrs_list PySem.F.slot_list_extend rfl (te_v (by walk_at "v" : TV _ _ _ _ (.ref D)) ⟨ty_lst (lsT_c su_same), ta_v (tv_lcM (α := Nat) (l := List.range (n + 1 - c)) (g := fun i => .int ((c + 1 + i : Nat) : Int)) (f := fun k => .tup [.str (sOf "swap"), .int (i : Int), .int (b : Int), .int (c : Int), .int ((c + 1 + k : Nat) : Int)]) (own := [("_law_d", 6)]) (t := .nm 6) (by walk_at "tgt") (by walk_at "blk") (by decide)
            (rngQ (m := c + 1) (n := n + 2) (k := n + 1 - c) (by rfl) (by walk_at "as") (TV.castI (j := ((c + 1 : Nat) : Int)) (tv_bin (by walk_at "v" : TV _ _ _ _ (.int (c : Int))) (by walk_at "v" : TV _ _ _ _ (.int 1)) po_addI) (by omega)) (TV.castI (j := ((n + 2 : Nat) : Int)) (tv_bin (by walk_at "v" : TV _ _ _ _ (.int (n : Int))) (by walk_at "v" : TV _ _ _ _ (.int 2)) po_addI) (by omega)) (by omega) (by omega) (by omega)) (by rw [List.length_range]; omega) (fun _ _ => rfl) (fun k _ => by walk_at "v")) (ta_nil (tm_extend su_same (by rw [List.length_map, List.length_range]; omega) ?_))⟩)))
          rw [su_su]
          refine tk_nil ⟨_, _, rfl, fun y hy => ?_, by rw [List.length_append, List.length_map, List.length_range]; omega, rfl⟩
          rcases List.mem_append.mp hy with hy | hy
          · exact ox y hy
          · obtain ⟨k, hk, rfl⟩ := List.mem_map.mp hy
            have := List.mem_range.mp hk
            refine okm (.sw i b c (c + 1 + k)) fun j hj => ?_
            simp only [mvNs, List.mem_cons, List.not_mem_nil, or_false] at hj
            rcases hj with rfl | rfl | rfl | rfl <;> omega
        · rintro ρ1 σ2 ⟨xs, a4, rfl, ox, lx, rfl⟩
          rw [List.length_map, List.length_range] at lx
          exact tk_nil ⟨xs, _, _, rfl, ox, by omega, rfl⟩
      · rintro ρ1 σ2 ⟨xs, a3, a4, rfl, ox, lx, rfl⟩
        rw [List.length_map, List.length_range] at lx
        exact tk_nil ⟨xs, _, _, _, rfl, ox, by omega, rfl⟩
    · rintro ρ1 σ2 ⟨xs, a2, a3, a4, rfl, ox, lx, rfl⟩
      rw [List.length_map, List.length_range] at lx
      refine tk_frz (i := 1) rfl su_same ?_
      rw [sd_su hD]
      exact tk_ret (by walk_at "v" : TV _ _ _ _ (.lst xs)) (q xs ox (by omega))
end
end Y

/-! ### k13: values that are no moves, or moves with one number changed (printed by mk_odd13.py) -/
namespace Y
open PySem PySem.Spec PyProof.Rows L2 SX Z
section
variable {c : Ct} {ρ : EnvT} {σ : Sg} {Q : DT → Sg → Prop} {E : TX} {a : Expr} {p pos : Pos}
theorem te_listTC [Calm c] (hg : GlS c "list") (hm : c.mg "list" = none) (h : TE c a ρ σ (fun x σ1 => ∃ xs, x = .tup xs ∧ ∀ q, σ1 q = none → Q (.ref q) (su σ1 q (.lst xs))) E)
    (he : ∀ env, starEach [a] env = (false, eval a env) :: starEach [] env := by intro _; rfl) (hpl : ∀ pos env, (backTo pos (starEach [] env)).any (·.1) = false := by intro _ _; rfl) : TE c (.Call (.Name "list" p) [a] [] pos) ρ σ Q E := ⟨fun X hX st H K w r xc Q' fo => by
  have hX' := hX
  cases hX'
  refine cE_of (pe_callTy call_list_of hg hm (by exact bt_list) (cA_pa (e := [a])) (by decide) (by decide) (he _) (hpl _ _)) ?_
  refine (ta_cons (QA := fun ds σ1 => ∃ xs, ds = [DT.tup xs] ∧ ∀ q, σ1 q = none → Q (.ref q) (su σ1 q (.lst xs))) (h.imp fun x σ1 ⟨xs, h1, h2⟩ => ta_nil ⟨xs, by rw [h1], h2⟩) he).run X hX st H K w r xc _ fun vs ds σ1 H1 K1 s1 w1 r1 ⟨xs, ed, q⟩ => ?_
  subst ed
  obtain ⟨u, rfl, ru⟩ := repA_one r1
  obtain ⟨b, ws, rfl, q1, ra⟩ := rep_tup w1 ru
  refine ⟨b, ws, rfl, .inr q1, fun z hz => ?_⟩
  exact fo _ _ _ H1 _ (s1.trans (Gw.newC hz)) ((w1.push (o := .lst ws) hz).add (c := .lst xs) (none_of w1.le hz) ⟨_, upd_same, ra⟩) (.ref z) (q z (w1.free hz))⟩
end
/-- what may be asked, of bounded size -/
structure OkV (y : DT) : Prop where
  a : MvArg y
  g : Gf 3 3000 y
theorem okV_nt {y : DT} (h : bi y = true) (n : ∀ xs, y ≠ .tup xs) (g : Gf 3 3000 y) : OkV y := ⟨MvArg.nt h n, g⟩
theorem okV_lf {xs : List DT} (h : ∀ x ∈ xs, Lf x) (hl : xs.length ≤ 6) : OkV (.tup xs) := ⟨MvArg.lf h (by omega), (Gd.tup (n := 2) (gdA_lf h hl)).gf.le (Nat.le_refl _) (by decide)⟩
theorem lf_n {i : Nat} (h : i ≤ 900) : Lf (.int (i : Int)) := lf_i (by omega)
theorem lf_l1 {x : DT} (h : Lf x) : ∀ y ∈ [x], Lf y := fun y hy => by rw [List.mem_singleton.mp hy]; exact h
theorem lf_cons {x : DT} {xs : List DT} (h : Lf x) (t : ∀ y ∈ xs, Lf y) : ∀ y ∈ x :: xs, Lf y := fun y hy => by
  rcases List.mem_cons.mp hy with rfl | hy
  · exact h
  · exact t y hy
theorem lf_nl : ∀ y ∈ ([] : List DT), Lf y := fun _ h => nomatch h
theorem lf_w {s : List Nat} (h : lfB (.str s) = true) : Lf (.str s) := lfB_ok (xs := [.str s]) (by rw [List.all_cons, h]; rfl) _ List.mem_cons_self
theorem lf_b {i : Int} (h : lfB (.int i) = true) : Lf (.int i) := lfB_ok (xs := [.int i]) (by rw [List.all_cons, h]; rfl) _ List.mem_cons_self
theorem ok_app {xs ys : List DT} (h : ∀ y ∈ xs, OkV y) (h2 : ∀ y ∈ ys, OkV y) : ∀ y ∈ xs ++ ys, OkV y := fun y hy => by
  rcases List.mem_append.mp hy with hy | hy
  · exact h y hy
  · exact h2 y hy
theorem ok_cons {x : DT} {xs : List DT} (h : OkV x) (t : ∀ y ∈ xs, OkV y) : ∀ y ∈ x :: xs, OkV y := fun y hy => by
  rcases List.mem_cons.mp hy with rfl | hy
  · exact h
  · exact t y hy
theorem ok_nl : ∀ y ∈ ([] : List DT), OkV y := fun _ h => nomatch h
/-- a leaf and a list of leaves -/
theorem okV_two {x : DT} {l : List DT} (h : Lf x) (hl : ∀ y ∈ l, Lf y) (h1 : l.length ≤ 1) : OkV (.tup [x, .lst l]) ∧ OkV (.tup [.lst l, x]) := by
  have g2 : Gd 1 1300 (.lst l) := .lst (gdA_lf hl (by omega))
  have s2 : Sh 2 (.lst l) := fun y hy => (hl y hy).sh
  refine ⟨⟨⟨rfl, fun xs e => ?_⟩, (Gd.tup (n := 2) (w := 3000) (.cons (w1 := 203) (w2 := 2000) h.gd (.cons (w1 := 1300) (w2 := 0) (.lst (gdA_lf hl (by omega))) .nil (by decide)) (by decide))).gf⟩, ⟨⟨rfl, fun xs e => ?_⟩, (Gd.tup (n := 2) (w := 3000) (.cons (w1 := 1300) (w2 := 1000) (.lst (gdA_lf hl (by omega))) (.cons (w1 := 203) (w2 := 0) h.gd .nil (by decide)) (by decide))).gf⟩⟩
  · cases e
    refine ⟨fun z hz => ?_, Nat.le_of_ble_eq_true rfl, fun z hz => ?_⟩
    · simp only [List.mem_cons, List.not_mem_nil, or_false] at hz
      rcases hz with rfl | rfl
      · exact h.bi
      · rfl
    · simp only [List.mem_cons, List.not_mem_nil, or_false] at hz
      rcases hz with rfl | rfl
      · exact h.sh
      · exact s2
  · cases e
    refine ⟨fun z hz => ?_, Nat.le_of_ble_eq_true rfl, fun z hz => ?_⟩
    · simp only [List.mem_cons, List.not_mem_nil, or_false] at hz
      rcases hz with rfl | rfl
      · rfl
      · exact h.bi
    · simp only [List.mem_cons, List.not_mem_nil, or_false] at hz
      rcases hz with rfl | rfl
      · exact s2
      · exact h.sh
def od0 (a b c d s : Nat) : List DT := [.non, .int 0, .str (sOf ""), .str (sOf "swap"), .tup [], .tup [.str (sOf "swap")], .tup [.str (sOf "turn")], .lst [], .dct [], .bl true, .lst [.str (sOf "swap"), .int (a : Int), .int (b : Int), .int (c : Int), .int (d : Int)], .tup [.str (sOf "turn"), .int 0]]
theorem od0_ok {a b c d s : Nat} (ha : a ≤ 300) (hb : b ≤ 300) (hc : c ≤ 300) (hd : d ≤ 300) (hs : s ≤ 300) : ∀ y ∈ od0 a b c d s, OkV y :=
  (ok_cons (okV_nt rfl (fun _ h => nomatch h) Gd.non.gf) (ok_cons (okV_nt rfl (fun _ h => nomatch h) (Gd.int (by decide) (by decide)).gf) (ok_cons (okV_nt rfl (fun _ h => nomatch h) (Gd.str (by decide +kernel) (by decide +kernel)).gf) (ok_cons (okV_nt rfl (fun _ h => nomatch h) (Gd.str (by decide +kernel) (by decide +kernel)).gf) (ok_cons (okV_lf lf_nl (by exact Nat.le_of_ble_eq_true rfl)) (ok_cons (okV_lf (lf_cons (lf_w (by decide +kernel)) lf_nl) (by exact Nat.le_of_ble_eq_true rfl)) (ok_cons (okV_lf (lf_cons (lf_w (by decide +kernel)) lf_nl) (by exact Nat.le_of_ble_eq_true rfl)) (ok_cons (okV_nt rfl (fun _ h => nomatch h) (Gd.lst (n := 2) .nil).gf) (ok_cons (okV_nt rfl (fun _ h => nomatch h) (Gd.dct (n := 2) .nil).gf) (ok_cons (okV_nt rfl (fun _ h => nomatch h) (Gd.bl _).gf) (ok_cons (okV_nt rfl (fun _ h => nomatch h) ((Gd.lst (n := 2) (gdA_lf (lf_cons (lf_w (by decide +kernel)) (lf_cons (lf_n (by omega)) (lf_cons (lf_n (by omega)) (lf_cons (lf_n (by omega)) (lf_cons (lf_n (by omega)) lf_nl))))) (by exact Nat.le_of_ble_eq_true rfl))).gf.le (Nat.le_refl _) (by decide))) (ok_cons (okV_lf (lf_cons (lf_w (by decide +kernel)) (lf_cons (lf_b (by decide +kernel)) lf_nl)) (by exact Nat.le_of_ble_eq_true rfl)) ok_nl))))))))))))
def od1 (a b c d s : Nat) : List DT := [.tup [.str (sOf "turn"), .int (s : Int)], .tup [.str (sOf "turn"), .int (-1)], .tup [.str (sOf "turn"), .non], .tup [.str (sOf "turn"), .bl true], .tup [.str (sOf "turn"), .str (sOf "1")], .tup [.str (sOf "turn"), .int 1, .int 2]]
theorem od1_ok {a b c d s : Nat} (ha : a ≤ 300) (hb : b ≤ 300) (hc : c ≤ 300) (hd : d ≤ 300) (hs : s ≤ 300) : ∀ y ∈ od1 a b c d s, OkV y :=
  (ok_cons (okV_lf (lf_cons (lf_w (by decide +kernel)) (lf_cons (lf_n (by omega)) lf_nl)) (by exact Nat.le_of_ble_eq_true rfl)) (ok_cons (okV_lf (lf_cons (lf_w (by decide +kernel)) (lf_cons (lf_b (by decide +kernel)) lf_nl)) (by exact Nat.le_of_ble_eq_true rfl)) (ok_cons (okV_lf (lf_cons (lf_w (by decide +kernel)) (lf_cons trivial lf_nl)) (by exact Nat.le_of_ble_eq_true rfl)) (ok_cons (okV_lf (lf_cons (lf_w (by decide +kernel)) (lf_cons trivial lf_nl)) (by exact Nat.le_of_ble_eq_true rfl)) (ok_cons (okV_lf (lf_cons (lf_w (by decide +kernel)) (lf_cons (lf_w (by decide +kernel)) lf_nl)) (by exact Nat.le_of_ble_eq_true rfl)) (ok_cons (okV_lf (lf_cons (lf_w (by decide +kernel)) (lf_cons (lf_b (by decide +kernel)) (lf_cons (lf_b (by decide +kernel)) lf_nl))) (by exact Nat.le_of_ble_eq_true rfl)) ok_nl))))))
def od2 (a b c d s : Nat) : List DT := [.tup [.str (sOf "swap"), .int (a : Int), .int (b : Int), .int (c : Int)], .tup [.str (sOf "Swap"), .int (a : Int), .int (b : Int), .int (c : Int), .int (d : Int)], .tup [.non, .int (a : Int), .int (b : Int), .int (c : Int), .int (d : Int)], .tup [.str (sOf "swap"), .int (a : Int), .int (b : Int), .int (c : Int), .int (d : Int), .int 0]]
theorem od2_ok {a b c d s : Nat} (ha : a ≤ 300) (hb : b ≤ 300) (hc : c ≤ 300) (hd : d ≤ 300) (hs : s ≤ 300) : ∀ y ∈ od2 a b c d s, OkV y :=
  (ok_cons (okV_lf (lf_cons (lf_w (by decide +kernel)) (lf_cons (lf_n (by omega)) (lf_cons (lf_n (by omega)) (lf_cons (lf_n (by omega)) lf_nl)))) (by exact Nat.le_of_ble_eq_true rfl)) (ok_cons (okV_lf (lf_cons (lf_w (by decide +kernel)) (lf_cons (lf_n (by omega)) (lf_cons (lf_n (by omega)) (lf_cons (lf_n (by omega)) (lf_cons (lf_n (by omega)) lf_nl))))) (by exact Nat.le_of_ble_eq_true rfl)) (ok_cons (okV_lf (lf_cons trivial (lf_cons (lf_n (by omega)) (lf_cons (lf_n (by omega)) (lf_cons (lf_n (by omega)) (lf_cons (lf_n (by omega)) lf_nl))))) (by exact Nat.le_of_ble_eq_true rfl)) (ok_cons (okV_lf (lf_cons (lf_w (by decide +kernel)) (lf_cons (lf_n (by omega)) (lf_cons (lf_n (by omega)) (lf_cons (lf_n (by omega)) (lf_cons (lf_n (by omega)) (lf_cons (lf_b (by decide +kernel)) lf_nl)))))) (by exact Nat.le_of_ble_eq_true rfl)) ok_nl))))
def od3 (a b c d s : Nat) : List DT := [.tup [.str (sOf "swap"), .int (d : Int), .int (c : Int), .int (b : Int), .int (a : Int)], .tup [.int 1, .int 2], .tup [.str (sOf "swap"), .int (a : Int), .int (a : Int), .int (c : Int), .int (d : Int)], .tup [.str (sOf "swap"), .int (a : Int), .int ((c : Int) + 1), .int (c : Int), .int (d : Int)]]
theorem od3_ok {a b c d s : Nat} (ha : a ≤ 300) (hb : b ≤ 300) (hc : c ≤ 300) (hd : d ≤ 300) (hs : s ≤ 300) : ∀ y ∈ od3 a b c d s, OkV y :=
  (ok_cons (okV_lf (lf_cons (lf_w (by decide +kernel)) (lf_cons (lf_n (by omega)) (lf_cons (lf_n (by omega)) (lf_cons (lf_n (by omega)) (lf_cons (lf_n (by omega)) lf_nl))))) (by exact Nat.le_of_ble_eq_true rfl)) (ok_cons (okV_lf (lf_cons (lf_b (by decide +kernel)) (lf_cons (lf_b (by decide +kernel)) lf_nl)) (by exact Nat.le_of_ble_eq_true rfl)) (ok_cons (okV_lf (lf_cons (lf_w (by decide +kernel)) (lf_cons (lf_n (by omega)) (lf_cons (lf_n (by omega)) (lf_cons (lf_n (by omega)) (lf_cons (lf_n (by omega)) lf_nl))))) (by exact Nat.le_of_ble_eq_true rfl)) (ok_cons (okV_lf (lf_cons (lf_w (by decide +kernel)) (lf_cons (lf_n (by omega)) (lf_cons (lf_i (by omega)) (lf_cons (lf_n (by omega)) (lf_cons (lf_n (by omega)) lf_nl))))) (by exact Nat.le_of_ble_eq_true rfl)) ok_nl))))
def od4 (a b c d s : Nat) : List DT := [.tup [.str (sOf "swap"), .int (a : Int), .int (b : Int), .int (c : Int), .int (c : Int)], .tup [.str (sOf "swap"), .int (-1), .int (b : Int), .int (c : Int), .int (d : Int)], .tup [.str (sOf "swap"), .int (a : Int), .int (b : Int), .int (c : Int), .int ((s : Int) + 1)]]
theorem od4_ok {a b c d s : Nat} (ha : a ≤ 300) (hb : b ≤ 300) (hc : c ≤ 300) (hd : d ≤ 300) (hs : s ≤ 300) : ∀ y ∈ od4 a b c d s, OkV y :=
  (ok_cons (okV_lf (lf_cons (lf_w (by decide +kernel)) (lf_cons (lf_n (by omega)) (lf_cons (lf_n (by omega)) (lf_cons (lf_n (by omega)) (lf_cons (lf_n (by omega)) lf_nl))))) (by exact Nat.le_of_ble_eq_true rfl)) (ok_cons (okV_lf (lf_cons (lf_w (by decide +kernel)) (lf_cons (lf_b (by decide +kernel)) (lf_cons (lf_n (by omega)) (lf_cons (lf_n (by omega)) (lf_cons (lf_n (by omega)) lf_nl))))) (by exact Nat.le_of_ble_eq_true rfl)) (ok_cons (okV_lf (lf_cons (lf_w (by decide +kernel)) (lf_cons (lf_n (by omega)) (lf_cons (lf_n (by omega)) (lf_cons (lf_n (by omega)) (lf_cons (lf_i (by omega)) lf_nl))))) (by exact Nat.le_of_ble_eq_true rfl)) ok_nl)))
def od5 (a b c d s : Nat) : List DT := [.tup [.str (sOf "swap"), .int ((a : Int) - (s : Int) - 1), .int (b : Int), .int (c : Int), .int (d : Int)], .tup [.str (sOf "swap"), .int (a : Int), .non, .int (c : Int), .int (d : Int)], .tup [.str (sOf "swap"), .int (a : Int), .int (b : Int), .int (c : Int), .int (10000000000000000000000000000000000000000)]]
theorem od5_ok {a b c d s : Nat} (ha : a ≤ 300) (hb : b ≤ 300) (hc : c ≤ 300) (hd : d ≤ 300) (hs : s ≤ 300) : ∀ y ∈ od5 a b c d s, OkV y :=
  (ok_cons (okV_lf (lf_cons (lf_w (by decide +kernel)) (lf_cons (lf_i (by omega)) (lf_cons (lf_n (by omega)) (lf_cons (lf_n (by omega)) (lf_cons (lf_n (by omega)) lf_nl))))) (by exact Nat.le_of_ble_eq_true rfl)) (ok_cons (okV_lf (lf_cons (lf_w (by decide +kernel)) (lf_cons (lf_n (by omega)) (lf_cons trivial (lf_cons (lf_n (by omega)) (lf_cons (lf_n (by omega)) lf_nl))))) (by exact Nat.le_of_ble_eq_true rfl)) (ok_cons (okV_lf (lf_cons (lf_w (by decide +kernel)) (lf_cons (lf_n (by omega)) (lf_cons (lf_n (by omega)) (lf_cons (lf_n (by omega)) (lf_cons (lf_b (by decide +kernel)) lf_nl))))) (by exact Nat.le_of_ble_eq_true rfl)) ok_nl)))
def od6 (a b c d s : Nat) : List DT := [.tup [.str (sOf "swap"), .bl true, .int (b : Int), .int (c : Int), .int (d : Int)], .tup [.str (sOf "swap"), .int (a : Int), .int (b : Int), .str (sOf "1"), .int (d : Int)], .tup [.lst [], .int (a : Int)], .tup [.str (sOf "turn"), .lst [.int 1]]]
theorem od6_ok {a b c d s : Nat} (ha : a ≤ 300) (hb : b ≤ 300) (hc : c ≤ 300) (hd : d ≤ 300) (hs : s ≤ 300) : ∀ y ∈ od6 a b c d s, OkV y :=
  (ok_cons (okV_lf (lf_cons (lf_w (by decide +kernel)) (lf_cons trivial (lf_cons (lf_n (by omega)) (lf_cons (lf_n (by omega)) (lf_cons (lf_n (by omega)) lf_nl))))) (by exact Nat.le_of_ble_eq_true rfl)) (ok_cons (okV_lf (lf_cons (lf_w (by decide +kernel)) (lf_cons (lf_n (by omega)) (lf_cons (lf_n (by omega)) (lf_cons (lf_w (by decide +kernel)) (lf_cons (lf_n (by omega)) lf_nl))))) (by exact Nat.le_of_ble_eq_true rfl)) (ok_cons (okV_two (lf_n (i := a) (by omega)) lf_nl (by decide)).2 (ok_cons (okV_two lf_tn (lf_l1 (lf_b (i := 1) (by decide +kernel))) (by decide)).1 ok_nl))))
def spOdd13 : TSpec := fun ds σ Q E => ∃ (p : Addr) (s a b c d N : Nat) (xs : List DT), ds = [.ref p, .int (s : Int), .tup [.str (sOf "swap"), .int (a : Int), .int (b : Int), .int (c : Int), .int (d : Int)]] ∧ s ≤ 300 ∧ a ≤ 300 ∧ b ≤ 300 ∧ c ≤ 300 ∧ d ≤ 300 ∧ σ p = some (.lst xs) ∧ bagOk N xs ∧ N < 2 ^ 37 ∧ ∀ ys xs', (∀ y ∈ ys, OkV y) → ys.length ≤ 60 → bagOk (N + 3) xs' → Q (.lst ys) (su σ p (.lst xs'))
section
variable {P : Program} {w : World} {F : PySem.W.Frag} {mg : Str → Option Value} {base : Heap}
set_option maxHeartbeats 4000000 in
theorem ok_odd13 (L0 : Dt P w F mg base "_law_draw" ["_law_bag_here", "_law_bound"] 2 spDrawB) (b1 : mg "list" = none) (b2 : mg "tuple" = none) (Fn : DfN F mg "_law_odd" ["_law_bag_here", "_law_size", "_law_move"] s_law_odd) : Dt P w F mg base "_law_odd" ["_law_bag_here", "_law_size", "_law_move"] 3 spOdd13 := by
  refine dt_ok Fn sc_law_odd (fun ds σ Q E h => ?_) (fun ds σ Q E Wx h => ?_)
  · obtain ⟨p, s, a, b, c, d, N, xs, rfl, _⟩ := h
    rfl
  · obtain ⟨p, s, a, b, c, d, N, xs, rfl, hs, ha, hb, hc, hd, hσ, ok, hN, q⟩ := h
    refine tk_cons (ts_tg (t := .tp [3, 4, 5, 6]) (by walk_at "tgs") ((TV.cast (y := .tup [.int (a : Int), .int (b : Int), .int (c : Int), .int (d : Int)]) (tv_slice (by walk_at "v" : TV _ _ _ _ (.tup [.str (sOf "swap"), .int (a : Int), .int (b : Int), .int (c : Int), .int (d : Int)])) (to_some (by walk_at "v" : TV _ _ _ _ (.int 1))) to_none (pl_tup (show ¬ (HT.sIx 5 0 (some 1) = 0 ∧ HT.sIx 5 5 none = 5) from by decide))) (by rfl)).to ⟨_, rfl, ?_⟩))
    refine tk_setV (i := 7) (d := .lst (od0 a b c d s)) (by walk_at "sto") (tv_lst (tva_cons (by walk_at "v" : TV _ _ _ _ (.non)) (tva_cons (by walk_at "v" : TV _ _ _ _ (.int 0)) (tva_cons (by walk_at "v" : TV _ _ _ _ (.str (sOf ""))) (tva_cons (by walk_at "v" : TV _ _ _ _ (.str (sOf "swap"))) (tva_cons (tv_tup tva_nil) (tva_cons (tv_tup (tva_cons (by walk_at "v" : TV _ _ _ _ (.str (sOf "swap"))) tva_nil)) (tva_cons (tv_tup (tva_cons (by walk_at "v" : TV _ _ _ _ (.str (sOf "turn"))) tva_nil)) (tva_cons (tv_lst tva_nil) (tva_cons tv_dict0 (tva_cons (by walk_at "v" : TV _ _ _ _ (.bl true)) (tva_cons (tv_callTy (by rfl) (by walk_at "as") (by walk_at "bt") (tva_cons (by walk_at "v" : TV _ _ _ _ (.tup [.str (sOf "swap"), .int (a : Int), .int (b : Int), .int (c : Int), .int (d : Int)])) tva_nil) pf_listT) (tva_cons (tv_tup (tva_cons (by walk_at "v" : TV _ _ _ _ (.str (sOf "turn"))) (tva_cons (by walk_at "v" : TV _ _ _ _ (.int 0)) tva_nil))) tva_nil))))))))))))) ?_
    have l0 : (od0 a b c d s).length = 12 := rfl
    have k0 := od0_ok (s := s) ha hb hc hd hs
    generalize od0 a b c d s = m0 at l0 k0 ⊢
    refine tk_setV (i := 7) (by walk_at "sto") (tv_bin (by walk_at "v" : TV _ _ _ _ (.lst m0)) ((tv_lst (tva_cons (tv_tup (tva_cons (by walk_at "v" : TV _ _ _ _ (.str (sOf "turn"))) (tva_cons (by walk_at "v" : TV _ _ _ _ (.int (s : Int))) tva_nil))) (tva_cons (tv_tup (tva_cons (by walk_at "v" : TV _ _ _ _ (.str (sOf "turn"))) (tva_cons (tv_un (tv_int (i := 1)) po_negI : TV _ _ _ _ (.int (-1))) tva_nil))) (tva_cons (tv_tup (tva_cons (by walk_at "v" : TV _ _ _ _ (.str (sOf "turn"))) (tva_cons (by walk_at "v" : TV _ _ _ _ (.non)) tva_nil))) (tva_cons (tv_tup (tva_cons (by walk_at "v" : TV _ _ _ _ (.str (sOf "turn"))) (tva_cons (by walk_at "v" : TV _ _ _ _ (.bl true)) tva_nil))) (tva_cons (tv_tup (tva_cons (by walk_at "v" : TV _ _ _ _ (.str (sOf "turn"))) (tva_cons (by walk_at "v" : TV _ _ _ _ (.str (sOf "1"))) tva_nil))) (tva_cons (tv_tup (tva_cons (by walk_at "v" : TV _ _ _ _ (.str (sOf "turn"))) (tva_cons (by walk_at "v" : TV _ _ _ _ (.int 1)) (tva_cons (by walk_at "v" : TV _ _ _ _ (.int 2)) tva_nil)))) tva_nil))))))) : TV _ _ _ _ (.lst (od1 a b c d s))) (po_cat lsX_l lsX_l (by rw [l0]; exact Nat.le_of_ble_eq_true rfl))) ?_
    have l1 : (m0 ++ od1 a b c d s).length = 18 := by rw [List.length_append, l0]; rfl
    have k1 := ok_app k0 (od1_ok (s := s) ha hb hc hd hs)
    generalize m0 ++ od1 a b c d s = m1 at l1 k1 ⊢
    refine tk_setV (i := 7) (by walk_at "sto") (tv_bin (by walk_at "v" : TV _ _ _ _ (.lst m1)) ((tv_lst (tva_cons (tv_tup (tva_cons (by walk_at "v" : TV _ _ _ _ (.str (sOf "swap"))) (tva_cons (by walk_at "v" : TV _ _ _ _ (.int (a : Int))) (tva_cons (by walk_at "v" : TV _ _ _ _ (.int (b : Int))) (tva_cons (by walk_at "v" : TV _ _ _ _ (.int (c : Int))) tva_nil))))) (tva_cons (tv_tup (tva_cons (by walk_at "v" : TV _ _ _ _ (.str (sOf "Swap"))) (tva_cons (by walk_at "v" : TV _ _ _ _ (.int (a : Int))) (tva_cons (by walk_at "v" : TV _ _ _ _ (.int (b : Int))) (tva_cons (by walk_at "v" : TV _ _ _ _ (.int (c : Int))) (tva_cons (by walk_at "v" : TV _ _ _ _ (.int (d : Int))) tva_nil)))))) (tva_cons (tv_tup (tva_cons (by walk_at "v" : TV _ _ _ _ (.non)) (tva_cons (by walk_at "v" : TV _ _ _ _ (.int (a : Int))) (tva_cons (by walk_at "v" : TV _ _ _ _ (.int (b : Int))) (tva_cons (by walk_at "v" : TV _ _ _ _ (.int (c : Int))) (tva_cons (by walk_at "v" : TV _ _ _ _ (.int (d : Int))) tva_nil)))))) (tva_cons (tv_tup (tva_cons (by walk_at "v" : TV _ _ _ _ (.str (sOf "swap"))) (tva_cons (by walk_at "v" : TV _ _ _ _ (.int (a : Int))) (tva_cons (by walk_at "v" : TV _ _ _ _ (.int (b : Int))) (tva_cons (by walk_at "v" : TV _ _ _ _ (.int (c : Int))) (tva_cons (by walk_at "v" : TV _ _ _ _ (.int (d : Int))) (tva_cons (by walk_at "v" : TV _ _ _ _ (.int 0)) tva_nil))))))) tva_nil))))) : TV _ _ _ _ (.lst (od2 a b c d s))) (po_cat lsX_l lsX_l (by rw [l1]; exact Nat.le_of_ble_eq_true rfl))) ?_
    have l2 : (m1 ++ od2 a b c d s).length = 22 := by rw [List.length_append, l1]; rfl
    have k2 := ok_app k1 (od2_ok (s := s) ha hb hc hd hs)
    generalize m1 ++ od2 a b c d s = m2 at l2 k2 ⊢
    refine tk_setV (i := 7) (by walk_at "sto") (tv_bin (by walk_at "v" : TV _ _ _ _ (.lst m2)) ((tv_lst (tva_cons (tv_tup (tva_cons (by walk_at "v" : TV _ _ _ _ (.str (sOf "swap"))) (tva_cons (by walk_at "v" : TV _ _ _ _ (.int (d : Int))) (tva_cons (by walk_at "v" : TV _ _ _ _ (.int (c : Int))) (tva_cons (by walk_at "v" : TV _ _ _ _ (.int (b : Int))) (tva_cons (by walk_at "v" : TV _ _ _ _ (.int (a : Int))) tva_nil)))))) (tva_cons (tv_tup (tva_cons (by walk_at "v" : TV _ _ _ _ (.int 1)) (tva_cons (by walk_at "v" : TV _ _ _ _ (.int 2)) tva_nil))) (tva_cons (tv_tup (tva_cons (by walk_at "v" : TV _ _ _ _ (.str (sOf "swap"))) (tva_cons (by walk_at "v" : TV _ _ _ _ (.int (a : Int))) (tva_cons (by walk_at "v" : TV _ _ _ _ (.int (a : Int))) (tva_cons (by walk_at "v" : TV _ _ _ _ (.int (c : Int))) (tva_cons (by walk_at "v" : TV _ _ _ _ (.int (d : Int))) tva_nil)))))) (tva_cons (tv_tup (tva_cons (by walk_at "v" : TV _ _ _ _ (.str (sOf "swap"))) (tva_cons (by walk_at "v" : TV _ _ _ _ (.int (a : Int))) (tva_cons (tv_bin (by walk_at "v" : TV _ _ _ _ (.int (c : Int))) (by walk_at "v" : TV _ _ _ _ (.int 1)) po_addI : TV _ _ _ _ (.int ((c : Int) + 1))) (tva_cons (by walk_at "v" : TV _ _ _ _ (.int (c : Int))) (tva_cons (by walk_at "v" : TV _ _ _ _ (.int (d : Int))) tva_nil)))))) tva_nil))))) : TV _ _ _ _ (.lst (od3 a b c d s))) (po_cat lsX_l lsX_l (by rw [l2]; exact Nat.le_of_ble_eq_true rfl))) ?_
    have l3 : (m2 ++ od3 a b c d s).length = 26 := by rw [List.length_append, l2]; rfl
    have k3 := ok_app k2 (od3_ok (s := s) ha hb hc hd hs)
    generalize m2 ++ od3 a b c d s = m3 at l3 k3 ⊢
    refine tk_setV (i := 7) (by walk_at "sto") (tv_bin (by walk_at "v" : TV _ _ _ _ (.lst m3)) ((tv_lst (tva_cons (tv_tup (tva_cons (by walk_at "v" : TV _ _ _ _ (.str (sOf "swap"))) (tva_cons (by walk_at "v" : TV _ _ _ _ (.int (a : Int))) (tva_cons (by walk_at "v" : TV _ _ _ _ (.int (b : Int))) (tva_cons (by walk_at "v" : TV _ _ _ _ (.int (c : Int))) (tva_cons (by walk_at "v" : TV _ _ _ _ (.int (c : Int))) tva_nil)))))) (tva_cons (tv_tup (tva_cons (by walk_at "v" : TV _ _ _ _ (.str (sOf "swap"))) (tva_cons (tv_un (tv_int (i := 1)) po_negI : TV _ _ _ _ (.int (-1))) (tva_cons (by walk_at "v" : TV _ _ _ _ (.int (b : Int))) (tva_cons (by walk_at "v" : TV _ _ _ _ (.int (c : Int))) (tva_cons (by walk_at "v" : TV _ _ _ _ (.int (d : Int))) tva_nil)))))) (tva_cons (tv_tup (tva_cons (by walk_at "v" : TV _ _ _ _ (.str (sOf "swap"))) (tva_cons (by walk_at "v" : TV _ _ _ _ (.int (a : Int))) (tva_cons (by walk_at "v" : TV _ _ _ _ (.int (b : Int))) (tva_cons (by walk_at "v" : TV _ _ _ _ (.int (c : Int))) (tva_cons (tv_bin (by walk_at "v" : TV _ _ _ _ (.int (s : Int))) (by walk_at "v" : TV _ _ _ _ (.int 1)) po_addI : TV _ _ _ _ (.int ((s : Int) + 1))) tva_nil)))))) tva_nil)))) : TV _ _ _ _ (.lst (od4 a b c d s))) (po_cat lsX_l lsX_l (by rw [l3]; exact Nat.le_of_ble_eq_true rfl))) ?_
    have l4 : (m3 ++ od4 a b c d s).length = 29 := by rw [List.length_append, l3]; rfl
    have k4 := ok_app k3 (od4_ok (s := s) ha hb hc hd hs)
    generalize m3 ++ od4 a b c d s = m4 at l4 k4 ⊢
    refine tk_setV (i := 7) (by walk_at "sto") (tv_bin (by walk_at "v" : TV _ _ _ _ (.lst m4)) ((tv_lst (tva_cons (tv_tup (tva_cons (by walk_at "v" : TV _ _ _ _ (.str (sOf "swap"))) (tva_cons (tv_bin (tv_bin (by walk_at "v" : TV _ _ _ _ (.int (a : Int))) (by walk_at "v" : TV _ _ _ _ (.int (s : Int))) po_subI) (by walk_at "v" : TV _ _ _ _ (.int 1)) po_subI : TV _ _ _ _ (.int ((a : Int) - (s : Int) - 1))) (tva_cons (by walk_at "v" : TV _ _ _ _ (.int (b : Int))) (tva_cons (by walk_at "v" : TV _ _ _ _ (.int (c : Int))) (tva_cons (by walk_at "v" : TV _ _ _ _ (.int (d : Int))) tva_nil)))))) (tva_cons (tv_tup (tva_cons (by walk_at "v" : TV _ _ _ _ (.str (sOf "swap"))) (tva_cons (by walk_at "v" : TV _ _ _ _ (.int (a : Int))) (tva_cons (by walk_at "v" : TV _ _ _ _ (.non)) (tva_cons (by walk_at "v" : TV _ _ _ _ (.int (c : Int))) (tva_cons (by walk_at "v" : TV _ _ _ _ (.int (d : Int))) tva_nil)))))) (tva_cons (tv_tup (tva_cons (by walk_at "v" : TV _ _ _ _ (.str (sOf "swap"))) (tva_cons (by walk_at "v" : TV _ _ _ _ (.int (a : Int))) (tva_cons (by walk_at "v" : TV _ _ _ _ (.int (b : Int))) (tva_cons (by walk_at "v" : TV _ _ _ _ (.int (c : Int))) (tva_cons (TV.castI (j := 10000000000000000000000000000000000000000) (tv_bin (by walk_at "v" : TV _ _ _ _ (.int 10)) (by walk_at "v" : TV _ _ _ _ (.int 40)) (po_powI ⟨by decide, by decide, by decide⟩)) (by decide +kernel)) tva_nil)))))) tva_nil)))) : TV _ _ _ _ (.lst (od5 a b c d s))) (po_cat lsX_l lsX_l (by rw [l4]; exact Nat.le_of_ble_eq_true rfl))) ?_
    have l5 : (m4 ++ od5 a b c d s).length = 32 := by rw [List.length_append, l4]; rfl
    have k5 := ok_app k4 (od5_ok (s := s) ha hb hc hd hs)
    generalize m4 ++ od5 a b c d s = m5 at l5 k5 ⊢
    refine tk_setV (i := 7) (by walk_at "sto") (tv_bin (by walk_at "v" : TV _ _ _ _ (.lst m5)) ((tv_lst (tva_cons (tv_tup (tva_cons (by walk_at "v" : TV _ _ _ _ (.str (sOf "swap"))) (tva_cons (by walk_at "v" : TV _ _ _ _ (.bl true)) (tva_cons (by walk_at "v" : TV _ _ _ _ (.int (b : Int))) (tva_cons (by walk_at "v" : TV _ _ _ _ (.int (c : Int))) (tva_cons (by walk_at "v" : TV _ _ _ _ (.int (d : Int))) tva_nil)))))) (tva_cons (tv_tup (tva_cons (by walk_at "v" : TV _ _ _ _ (.str (sOf "swap"))) (tva_cons (by walk_at "v" : TV _ _ _ _ (.int (a : Int))) (tva_cons (by walk_at "v" : TV _ _ _ _ (.int (b : Int))) (tva_cons (by walk_at "v" : TV _ _ _ _ (.str (sOf "1"))) (tva_cons (by walk_at "v" : TV _ _ _ _ (.int (d : Int))) tva_nil)))))) (tva_cons (tv_tup (tva_cons (tv_lst tva_nil) (tva_cons (by walk_at "v" : TV _ _ _ _ (.int (a : Int))) tva_nil))) (tva_cons (tv_tup (tva_cons (by walk_at "v" : TV _ _ _ _ (.str (sOf "turn"))) (tva_cons (tv_lst (tva_cons (by walk_at "v" : TV _ _ _ _ (.int 1)) tva_nil)) tva_nil))) tva_nil))))) : TV _ _ _ _ (.lst (od6 a b c d s))) (po_cat lsX_l lsX_l (by rw [l5]; exact Nat.le_of_ble_eq_true rfl))) ?_
    have l6 : (m5 ++ od6 a b c d s).length = 36 := by rw [List.length_append, l5]; rfl
    have k6 := ok_app k5 (od6_ok (s := s) ha hb hc hd hs)
    generalize m5 ++ od6 a b c d s = m6 at l6 k6 ⊢
    refine tk_set (i := 8) (by walk_at "sto") (te_listTC (by rfl) (by walk_at "as") (te_v (by walk_at "v" : TV _ _ _ _ (.tup [.str (sOf "swap"), .int (a : Int), .int (b : Int), .int (c : Int), .int (d : Int)])) ⟨_, rfl, fun D hD => ?_⟩))
    have Dp : D ≠ p := fun e => by rw [e, hσ] at hD; cases hD
    refine tk_cons (ts_setItem (te_own L0 (by walk_at "k") (by rfl) ((tva_cons (by walk_at "v" : TV _ _ _ _ (.ref p)) (tva_cons (TV.castI (j := ((s + 2 : Nat) : Int)) (tv_bin (by walk_at "v" : TV _ _ _ _ (.int (s : Int))) (by walk_at "v" : TV _ _ _ _ (.int 2)) po_addI) (by omega)) tva_nil)).to ⟨p, _, N, xs, rfl, by rw [su_ne Dp.symm]; exact hσ, ok, by omega, by omega, by omega, fun e xs1 e0 e1 ok1 => ?_⟩)))
    refine te_v (by walk_at "v" : TV _ _ _ _ (.ref D)) (te_bin (te_v (by walk_at "v" : TV _ _ _ _ (.int 1)) (te_own L0 (by walk_at "k") (by rfl) ((by walk_at "va" : TVA _ _ _ _ [.ref p, .int 4]).to ⟨p, 4, N + 1, xs1, rfl, su_same, ok1, by omega, by decide, by decide, fun f xs2 f0 f1 ok2 => ?_⟩))))
    rw [su_su]
    obtain ⟨j, hj, hj4⟩ : ∃ j : Nat, (1 : Int) + f = (j : Int) ∧ 1 ≤ j ∧ j ≤ 4 := ⟨(1 + f).toNat, by omega, by omega, by omega⟩
    refine ⟨.int (j : Int), by rw [← hj]; exact po_addI, D, _, (j : Int), j, rfl, rfl, by rw [su_ne Dp, su_same], by
      show ixN 5 (j : Int) = some j
      unfold ixN
      rw [if_pos (by omega), if_pos (by omega), Int.toNat_natCast], ?_⟩
    obtain ⟨e', rfl⟩ := Int.eq_ofNat_of_zero_le e0
    have eD : su (su (su σ D (.lst [.str (sOf "swap"), .int (a : Int), .int (b : Int), .int (c : Int), .int (d : Int)])) p (.lst xs2)) D (.lst (([DT.str (sOf "swap"), .int (a : Int), .int (b : Int), .int (c : Int), .int (d : Int)]).set j (.int (e' : Int)))) = su (su σ p (.lst xs2)) D (.lst (([DT.str (sOf "swap"), .int (a : Int), .int (b : Int), .int (c : Int), .int (d : Int)]).set j (.int (e' : Int)))) := by
      rw [su_comm Dp, su_su, su_comm Dp.symm]
    rw [eD]
    have oks : OkV (.tup (([DT.str (sOf "swap"), .int (a : Int), .int (b : Int), .int (c : Int), .int (d : Int)]).set j (.int (e' : Int)))) := okV_lf (fun x hx => by
      rcases List.mem_or_eq_of_mem_set hx with hx | rfl
      · exact (lf_cons lf_sw (lf_cons (lf_n (by omega)) (lf_cons (lf_n (by omega)) (lf_cons (lf_n (by omega)) (lf_cons (lf_n (by omega)) lf_nl))))) x hx
      · exact lf_n (by omega)) (by rw [List.length_set]; exact Nat.le_of_ble_eq_true rfl)
    generalize (([DT.str (sOf "swap"), .int (a : Int), .int (b : Int), .int (c : Int), .int (d : Int)]).set j (.int (e' : Int))) = zs at oks
    have ps : (su (su σ p (.lst xs2)) D (.lst zs)) p = some (.lst xs2) := by rw [su_ne Dp.symm, su_same]
    refine tk_cons (ts_ret (te_drop D (te_bin (te_v (by walk_at "v" : TV _ _ _ _ (.lst m6)) (te_lst (ta_v (tv_callTy (by rfl) (by walk_at "as") (by exact bt_tuple) (tva_cons (by walk_at "v" : TV _ _ _ _ (.ref D)) tva_nil) (pf_tupL (lsT_c su_same))) (ta_cons (te_tup (ta_v (by walk_at "v" : TV _ _ _ _ (.str (sOf "turn"))) (ta_cons (te_bin (te_v (by walk_at "v" : TV _ _ _ _ (.int 1)) (te_own L0 (by walk_at "k") (by rfl) ((tva_cons (by walk_at "v" : TV _ _ _ _ (.ref p)) (tva_cons (TV.castI (j := ((s + 1 : Nat) : Int)) (tv_bin (by walk_at "v" : TV _ _ _ _ (.int (s : Int))) (by walk_at "v" : TV _ _ _ _ (.int 1)) po_addI) (by omega)) tva_nil)).to ⟨p, _, N + 2, xs2, rfl, ps, ok2, by omega, by omega, by omega, fun g xs3 g0 g1 ok3 => ⟨_, po_addI, ta_nil ⟨by exact Nat.le_of_ble_eq_true rfl, ?_⟩⟩⟩))))))))))))))
    refine ta_v (by walk_at "v" : TV _ _ _ _ (.tup [.str (sOf "swap"), .int (a : Int), .int (b : Int), .int (c : Int), .int (d : Int)])) (ta_nil ⟨by exact Nat.le_of_ble_eq_true rfl, _, po_cat lsX_l lsX_l (by rw [l6]; exact Nat.le_of_ble_eq_true rfl), ?_⟩)
    have eF : su (su (su σ p (.lst xs2)) D (.lst zs)) p (.lst xs3) = su (su σ p (.lst xs3)) D (.lst zs) := by
      rw [su_comm Dp.symm, su_su, su_comm Dp]
    have D0 : (su σ p (.lst xs3)) D = none := by rw [su_ne Dp]; exact hD
    rw [eF, sd_su D0]
    obtain ⟨g', rfl⟩ := Int.eq_ofNat_of_zero_le g0
    refine q _ xs3 (ok_app k6 (ok_cons oks (ok_cons (okV_lf (lf_cons lf_tn (lf_cons (lf_i (by omega)) lf_nl)) (by exact Nat.le_of_ble_eq_true rfl)) (ok_cons (okV_lf (lf_cons lf_sw (lf_cons (lf_n (by omega)) (lf_cons (lf_n (by omega)) (lf_cons (lf_n (by omega)) (lf_cons (lf_n (by omega)) lf_nl))))) (by exact Nat.le_of_ble_eq_true rfl)) ok_nl)))) (by rw [List.length_append, l6]; exact Nat.le_of_ble_eq_true rfl) ok3
end
end Y

/-! ### k13: what must hold, the law -/
namespace Y
open PySem PySem.Spec PyProof.Rows L2 SX Z
def spRt13 : TSpec := fun ds σ Q E => ∃ (r : List Nat) (w n k : Nat) (ys : List DT), ds = [.str r, .int (w : Int), .lst ys] ∧ rowOk r ∧ 1 ≤ w ∧ w ≤ 12 ∧ w ≤ r.length ∧ (∀ y ∈ ys, MvArg y) ∧ Gf n k (.lst ys) ∧ n ≤ 64 ∧ k ≤ 250000 ∧ Q (.bl true) σ
section
variable {P : Program} {w : World} {F : PySem.W.Frag} {mg : Str → Option Value} {base : Heap}
set_option maxHeartbeats 400000 in
theorem ok_right13 (sm : ∃ ob, base.get? sysModules = some ob) (LM : Dt P w F mg base "is_move" ["row", "width", "value"] 4 spIsMvG) (LH : Dt P w F mg base "_law_is_move" ["_law_letters_here", "_law_wide", "_law_value"] 3 spIsMvH) (b1 : mg "repr" = none)
    (Fn : DfN F mg "_law_right" ["_law_letters_here", "_law_wide", "_law_values"] s_law_right) : Dt P w F mg base "_law_right" ["_law_letters_here", "_law_wide", "_law_values"] 5 spRt13 := by
  refine dt_ok Fn sc_law_right (fun ds σ Q E h => ?_) (fun ds σ Q E Wx h => ?_)
  · obtain ⟨r, w, n, k, ys, rfl, _⟩ := h
    rfl
  · obtain ⟨r, w, n, k, ys, rfl, hr, w1, w2, wl, ha, g, hn, hk, q⟩ := h
    have l2 := hr.2.1
    refine tk_setV (i := 3) (by walk_at "sto") (tv_callB (by rfl) (by walk_at "as") (by walk_at "bt") (by walk_at "va" : TVA _ _ _ _ [.lst ys]) (pf_reprF sm rfl g hn hk)) ?_
    refine tk_cons (ts_for (t := .nm 4) (by walk_at "tgt") (ti_lst (te_v (by walk_at "v" : TV _ _ _ _ (.lst ys)) ⟨_, rfl, ?_⟩)))
    refine ⟨fun i ρ1 σ2 => ∃ a4, σ = σ2 ∧ ρ1 = [some (.str r), some (.int (w : Int)), some (.lst ys), some (.str (reprT (.lst ys))), a4], ⟨none, rfl, rfl⟩, ?_, ?_⟩
    · rintro i y ρ1 σ2 hd ⟨a4, rfl, rfl⟩
      have hy := ha y (List.mem_of_getElem? hd)
      refine ⟨_, rfl, ?_⟩
      refine tk_ifF (TB.cast (tb_cmp (tv_callB (by rfl) (by walk_at "as") (by walk_at "bt") (tva_cons (tv_own (d := .bl (isMvV r w y)) LM (by walk_at "k") (by rfl) (by walk_at "va" : TVA _ _ _ _ [.str r, .int (w : Int), y]) (fun {Q E} q => ⟨r, w, y, rfl, hr, w1, w2, wl, hy, q⟩)) tva_nil) pf_reprB) (tv_callB (by rfl) (by walk_at "as") (by walk_at "bt") (tva_cons (tv_own (d := .bl (isMvV r w y)) LH (by walk_at "k") (by rfl) (by walk_at "va" : TVA _ _ _ _ [.str r, .int (w : Int), y]) (fun {Q E} q => ⟨r, w, y, rfl, l2, w1, w2, wl, hy, q⟩)) tva_nil) pf_reprB) po_neS (by rfl)) (by rw [decide_eq_true rfl]; rfl)) (tk_nil (tk_nil ⟨_, rfl, rfl⟩))
    · rintro ρ1 σ2 ⟨a4, rfl, rfl⟩
      exact tk_ret (TV.castB (j := true) (tv_cmp (tv_callB (by rfl) (by walk_at "as") (by walk_at "bt") (by walk_at "va" : TVA _ _ _ _ [.lst ys]) (pf_reprF sm rfl g hn hk)) (by walk_at "v" : TV _ _ _ _ (.str (reprT (.lst ys)))) po_eqS (by rfl)) (decide_eq_true rfl)) q
set_option maxHeartbeats 1000000 in
theorem ok_law13 (LB : Dt P w F mg base "_law_bag" ["_law_script"] 1 spBag) (L0 : Dt P w F mg base "_law_draw" ["_law_bag_here", "_law_bound"] 2 spDrawB) (LL : Dt P w F mg base "_law_letters" ["_law_bag_here", "_law_most"] 3 spLettersB)
    (LA : Dt P w F mg base "_law_all" ["_law_size"] 1 spAll13) (LO : Dt P w F mg base "_law_odd" ["_law_bag_here", "_law_size", "_law_move"] 3 spOdd13) (LR : Dt P w F mg base "_law_right" ["_law_letters_here", "_law_wide", "_law_values"] 5 spRt13) (LS : Dt P w F mg base "_law_swap" ["_law_bag_here", "_law_letters_here", "_law_wide"] 3 spSwapB) (LM : Dt P w F mg base "is_move" ["row", "width", "value"] 4 spIsMvG)
    {f : Addr} {fd : FuncData} (Fn : Fun F "law" "law" s_law f fd) (b1 : mg "len" = none) (b2 : mg "min" = none) (b3 : mg "range" = none) : FnG P w F mg base 6 f fd ["_law_script"] (spT F lawSpec) := by
  refine fnT_ok Fn sc_law (fun ds σ Q E h => ?_) (fun ds σ Q E Wx h => ?_)
  · obtain ⟨ns, rfl, _⟩ := h
    rfl
  · obtain ⟨ns, rfl, hl, _, q⟩ := h
    refine tk_set (i := 1) (by walk_at "sto") (te_own LB (by walk_at "k") (by rfl) ((by walk_at "va" : TVA _ _ _ _ [.seq (ns.map DT.int)]).to ⟨ns, rfl, hl, fun p xs hp ok => ?_⟩))
    refine tk_cons (ts_for (t := .nm 2) (by walk_at "tgt") (ti_range1 (by rfl) (by walk_at "as") (te_v (tv_bin (by walk_at "v" : TV _ _ _ _ (.int 2)) (tv_callB (by rfl) (by walk_at "as") (by walk_at "bt") (tva_cons (by walk_at "v" : TV _ _ _ _ (.int 4)) (tva_cons (tv_callB (by rfl) (by walk_at "as") (by walk_at "bt") (by walk_at "va" : TVA _ _ _ _ [.seq (ns.map DT.int)]) (pf_lenL lsT_s)) tva_nil)) pf_min2) po_addI) ⟨_, rfl, by omega, ?_⟩)))
    refine ⟨fun i ρ1 σ2 => ∃ (xs : List DT) (a2 a3 a4 a5 a6 : Option DT), σ2 = su σ p (.lst xs) ∧ bagOk (i * 5000) xs ∧ ρ1 = [some (.seq (ns.map DT.int)), some (.ref p), a2, a3, a4, a5, a6], ⟨xs, none, none, none, none, none, rfl, ok, rfl⟩, ?_, ?_⟩
    · rintro i d ρ1 σ2 hd ⟨xs0, a2, a3, a4, a5, a6, rfl, ok0, rfl⟩
      rw [List.getElem?_map] at hd
      obtain ⟨j, hj, rfl⟩ := Option.map_eq_some_iff.mp hd
      have hi : i < 6 := by
        have h1 := (List.getElem?_eq_some_iff.mp hj).1
        rw [List.length_range] at h1
        omega
      have len : ∀ {r : List Nat} {ct : Ct} {ρ : EnvT} {nm : Str} {p1 p2 p3 : Pos} {σ2 : Sg}, r.length ≤ 200 → GlS ct "len" → ct.mg "len" = none → TV ct (.Name nm p3) ρ σ2 (.str r) → TV ct (.Call (.Name "len" p1) [.Name nm p3] [] p2) ρ σ2 (.int (r.length : Int)) := fun h0 h1 h2 h3 => tv_callB h1 h2 (by walk_at "bt") (tva_cons h3 tva_nil) (pf_lenS (by omega))
      have sz : ∀ {r : List Nat} {v : Nat} {ct : Ct} {ρ : EnvT} {n1 n2 : Str} {k : Nat} {p1 p2 p3 p4 p5 p6 p7 : Pos} {σ2 : Sg}, r.length ≤ 200 → v ≤ r.length → GlS ct "len" → ct.mg "len" = none → TV ct (.Name n1 p3) ρ σ2 (.str r) → TV ct (.Name n2 p4) ρ σ2 (.int (v : Int)) → TV ct (.BinOp (.BinOp (.Call (.Name "len" p1) [.Name n1 p3] [] p2) .Sub (.Name n2 p4) p5) .Add (.Constant (.int 1) k p6) p7) ρ σ2 (.int ((r.length + 1 - v : Nat) : Int)) := fun h0 h9 h1 h2 h3 h4 => TV.castI (tv_bin (tv_bin (len h0 h1 h2 h3) h4 po_subI) tv_int po_addI) (by omega)
      refine ⟨_, rfl, ?_⟩
      refine tk_set (i := 3) (by walk_at "sto") (te_own LL (by walk_at "k") (by rfl) ((by walk_at "va" : TVA _ _ _ _ [.ref p, .int 9]).to ⟨p, 9, _, xs0, rfl, su_same, ok0, by omega, by decide, by decide, fun r xs1 hr hl9 ok1 => ?_⟩))
      rw [su_su]
      have r1 := hr.1
      have r200 : r.length ≤ 200 := by omega
      refine tk_cons (ts_for (t := .nm 4) (by walk_at "tgt") ((rngQ (m := 1) (n := r.length + 1) (k := r.length) (by rfl) (by walk_at "as") (TV.castI (j := ((1 : Nat) : Int)) (by walk_at "v" : TV _ _ _ _ (.int 1)) rfl) (TV.castI (j := ((r.length + 1 : Nat) : Int)) (tv_bin (len r200 (by rfl) (by walk_at "as") (by walk_at "v")) (by walk_at "v" : TV _ _ _ _ (.int 1)) po_addI) (by omega)) (by omega) (by omega) (by omega)).to ?_))
      refine ⟨fun _ ρ1 σ2 => ∃ (a4 : Option DT), σ2 = su σ p (.lst xs1) ∧ ρ1 = [some (.seq (ns.map DT.int)), some (.ref p), some (.int (j : Int)), some (.str r), a4, a5, a6], ⟨a4, rfl, rfl⟩, ?_, ?_⟩
      · rintro k d ρ1 σ2 hd ⟨a4, rfl, rfl⟩
        rw [List.getElem?_map] at hd
        obtain ⟨k', hk', rfl⟩ := Option.map_eq_some_iff.mp hd
        obtain ⟨hk1, hk2⟩ := List.getElem?_eq_some_iff.mp hk'
        rw [List.length_range] at hk1
        rw [List.getElem_range] at hk2
        subst hk2
        obtain ⟨v, hv⟩ : ∃ v, 1 + k = v := ⟨_, rfl⟩
        rw [hv]
        refine ⟨_, rfl, ?_⟩
        refine tk_cons (ts_if (tt_not (tt_val (te_own LR (by walk_at "k") (by rfl) (ta_v (by walk_at "v" : TV _ _ _ _ (.str r)) (ta_v (by walk_at "v" : TV _ _ _ _ (.int (v : Int))) (ta_cons (te_own LA (by walk_at "k") (by rfl) (ta_v (sz r200 (by omega) (by rfl) (by walk_at "as") (by walk_at "v") (by walk_at "v")) (ta_nil ⟨r.length + 1 - v, rfl, by omega, fun ys oy ly => ta_nil ⟨r, v, 2, 8200 * 26, ys, rfl, hr, by omega, by omega, by omega, fun y hy => (oy y hy).1, (gf_lst fun y hy => (oy y hy).2).le (Nat.le_refl _) (Nat.mul_le_mul_right 26 ly), by decide, by decide, ?_⟩⟩))))))))))
        exact ⟨true, rfl, fun z => absurd z (by decide), fun _ => tk_nil (tk_nil ⟨_, rfl, rfl⟩)⟩
      rintro ρ1 σ2 ⟨a4, rfl, rfl⟩
      refine tk_set (i := 3) (by walk_at "sto") (te_own LL (by walk_at "k") (by rfl) (ta_v (by walk_at "v" : TV _ _ _ _ (.ref p)) (ta_cons (te_sub (te_v (tv_lst (by walk_at "va" : TVA _ _ _ _ [.int 30, .int 200])) (te_own L0 (by walk_at "k") (by rfl) ((by walk_at "va" : TVA _ _ _ _ [.ref p, .int 2]).to ⟨p, 2, i * 5000 + 1000, xs1, rfl, su_same, ok1, by omega, by decide, by decide, fun e xs2 e0 e1 ok2 => ?_⟩)))))))
      rw [su_su]
      obtain ⟨m, hm, m1, m2⟩ : ∃ m : Nat, atI [DT.int 30, DT.int 200] e = some (.int (m : Int)) ∧ 1 ≤ m ∧ m ≤ 200 := by
        have : e = 0 ∨ e = 1 := by omega
        rcases this with rfl | rfl
        · exact ⟨30, rfl, by decide, by decide⟩
        · exact ⟨200, rfl, by decide, by decide⟩
      refine ⟨_, pi_lst lsT_l hm, ta_nil ⟨p, m, _, xs2, rfl, su_same, ok2, by omega, m1, m2, fun r xs3 hr hl9 ok3 => ?_⟩⟩
      rw [su_su]
      have r1 := hr.1
      have r200 := hr.2.1
      refine tk_cons (ts_for (t := .nm 5) (by walk_at "tgt") (ti_range1 (by rfl) (by walk_at "as") (te_v (by walk_at "v" : TV _ _ _ _ (.int 3)) ⟨_, rfl, by decide, ?_⟩)))
      refine ⟨fun i2 ρ1 σ2 => ∃ (xs : List DT) (a4 a5 a6 : Option DT), σ2 = su σ p (.lst xs) ∧ bagOk (i * 5000 + 2001 + i2 * 40) xs ∧ ρ1 = [some (.seq (ns.map DT.int)), some (.ref p), some (.int (j : Int)), some (.str r), a4, a5, a6], ⟨xs3, _, _, _, rfl, bag_le ok3 (by omega), rfl⟩, ?_, ?_⟩
      · rintro i2 d ρ1 σ2 hd ⟨xs4, a4, a5, a6, rfl, ok4, rfl⟩
        rw [List.getElem?_map] at hd
        obtain ⟨j2, hj2, rfl⟩ := Option.map_eq_some_iff.mp hd
        have hi2 : i2 < 3 := by
          have h1 := (List.getElem?_eq_some_iff.mp hj2).1
          rw [List.length_range] at h1
          exact h1
        refine ⟨_, rfl, ?_⟩
        refine tk_set (i := 4) (by walk_at "sto") (te_bin (te_v (by walk_at "v" : TV _ _ _ _ (.int 1)) (te_own L0 (by walk_at "k") (by rfl) ((tva_cons (by walk_at "v" : TV _ _ _ _ (.ref p)) (tva_cons (tv_callB (by rfl) (by walk_at "as") (by walk_at "bt") (tva_cons (by walk_at "v" : TV _ _ _ _ (.int 12)) (tva_cons (len r200 (by rfl) (by walk_at "as") (by walk_at "v")) tva_nil)) pf_min2) tva_nil)).to ⟨p, _, _, xs4, rfl, su_same, ok4, by omega, by omega, by omega, fun e2 xs5 e0 e1 ok5 => ⟨_, po_addI, ?_⟩⟩))))
        rw [su_su]
        obtain ⟨v, hv, v1, v2, v3⟩ : ∃ v : Nat, (1 : Int) + e2 = (v : Int) ∧ 1 ≤ v ∧ v ≤ 12 ∧ v ≤ r.length := ⟨(1 + e2).toNat, by omega, by omega, by omega, by omega⟩
        rw [hv]
        refine tk_set (i := 6) (by walk_at "sto") (te_own LS (by walk_at "k") (by rfl) ((by walk_at "va" : TVA _ _ _ _ [.ref p, .str r, .int (v : Int)]).to ⟨p, r, v, _, xs5, rfl, r200, v1, v2, v3, su_same, ok5, by omega, fun y xs6 hy ok6 => ?_⟩))
        rw [su_su]
        refine tk_join (fun ρ' σ' => ∃ a b c d : Nat, a ≤ 300 ∧ b ≤ 300 ∧ c ≤ 300 ∧ d ≤ 300 ∧ σ' = su σ p (.lst xs6) ∧ ρ' = [some (.seq (ns.map DT.int)), some (.ref p), some (.int (j : Int)), some (.str r), some (.int (v : Int)), some (.int (j2 : Int)), some (.tup [.str (sOf "swap"), .int (a : Int), .int (b : Int), .int (c : Int), .int (d : Int)])]) (ts_if ((tb_cmp (by walk_at "v" : TV _ _ _ _ y) (by walk_at "v" : TV _ _ _ _ .non) po_isN (by rfl)).to ⟨fun z => ?_, fun z => ?_⟩)) ?_
        · refine tk_setV (i := 6) (by walk_at "sto") (TV.cast (y := .tup [.str (sOf "swap"), .int ((0 : Nat) : Int), .int ((1 : Nat) : Int), .int ((1 : Nat) : Int), .int ((2 : Nat) : Int)]) (by walk_at "v" : TV _ _ _ _ (.tup [.str (sOf "swap"), .int 0, .int 1, .int 1, .int 2])) rfl) (tk_nil ⟨0, 1, 1, 2, by decide, by decide, by decide, by decide, rfl, rfl⟩)
        · rcases hy with rfl | ⟨a, b, c, d, rfl, h1, h2, h3, h4, _⟩
          · cases z
          · exact tk_nil ⟨a, b, c, d, by omega, by omega, by omega, by omega, rfl, rfl⟩
        rintro ρ1 σ2 ⟨a, b, c, d, ha, hb, hc, hd, rfl, rfl⟩
        refine tk_cons (ts_if (tt_not (tt_val (te_own LR (by walk_at "k") (by rfl) (ta_v (by walk_at "v" : TV _ _ _ _ (.str r)) (ta_v (by walk_at "v" : TV _ _ _ _ (.int (v : Int))) (ta_cons (te_own LO (by walk_at "k") (by rfl) (ta_v (by walk_at "v" : TV _ _ _ _ (.ref p)) (ta_v (sz r200 v3 (by rfl) (by walk_at "as") (by walk_at "v") (by walk_at "v")) (ta_v (by walk_at "v" : TV _ _ _ _ (.tup [.str (sOf "swap"), .int (a : Int), .int (b : Int), .int (c : Int), .int (d : Int)])) (ta_nil ⟨p, r.length + 1 - v, a, b, c, d, _, xs6, rfl, by omega, ha, hb, hc, hd, su_same, ok6, by omega, fun ys xs7 oy ly ok7 => ta_nil ⟨r, v, 4, 60 * 3001, ys, rfl, hr, v1, v2, v3, fun y hy => (oy y hy).a, (gf_lst fun y hy => (oy y hy).g).le (Nat.le_refl _) (Nat.mul_le_mul_right 3001 ly), by decide, by decide, ?_⟩⟩))))))))))))
        rw [su_su]
        exact ⟨true, rfl, fun z => absurd z (by decide), fun _ => tk_nil (tk_nil ⟨xs7, _, _, _, rfl, bag_le ok7 (by omega), rfl⟩)⟩
      · rintro ρ1 σ2 ⟨xs4, a4, a5, a6, rfl, ok4, rfl⟩
        have l4 : ((List.range (3 : Int).toNat).map fun i : Nat => DT.int (i : Int)).length = 3 := by decide
        rw [l4] at ok4
        exact tk_nil ⟨xs4, _, _, _, _, _, rfl, bag_le ok4 (by omega), rfl⟩
    · rintro ρ1 σ2 ⟨xs0, a2, a3, a4, a5, a6, rfl, ok0, rfl⟩
      have rk : ∀ r : List Nat, (decide (1 ≤ r.length) && decide (r.length ≤ 200) && r.all isLet) = true → rowOk r := fun r h => by
        rw [Bool.and_eq_true, Bool.and_eq_true] at h
        exact ⟨of_decide_eq_true h.1.1, of_decide_eq_true h.1.2, h.2⟩
      refine tk_ret (TV.castB (j := true) (tv_and (r := true) (s := true) (TV.castB (tv_cmp (tv_own (d := .bl true) LM (by walk_at "k") (by rfl) (by walk_at "va" : TVA _ _ _ _ [.str (sOf "abcabdab"), .int 2, .tup [.str (sOf "swap"), .int 1, .int 4, .int 4, .int 7]]) (fun {Q E} q => ⟨sOf "abcabdab", 2, _, rfl, rk _ (by decide +kernel), by decide, by decide, by decide +kernel, MvArg.mv (.sw 1 4 4 7), by rw [show isMvV (sOf "abcabdab") 2 (.tup [.str (sOf "swap"), .int 1, .int 4, .int 4, .int 7]) = true by decide +kernel]; exact q⟩)) (by walk_at "v" : TV _ _ _ _ (.bl true)) po_isB (by rfl)) rfl)
        (fun _ => tv_one (TV.castB (tv_cmp (tv_own (d := .bl true) LM (by walk_at "k") (by rfl) (by walk_at "va" : TVA _ _ _ _ [.str (sOf "abab"), .int 3, .tup [.str (sOf "turn"), .int 1]]) (fun {Q E} q => ⟨sOf "abab", 3, _, rfl, rk _ (by decide +kernel), by decide, by decide, by decide +kernel, MvArg.mv (.tn 1), by rw [show isMvV (sOf "abab") 3 (.tup [.str (sOf "turn"), .int 1]) = true by decide +kernel]; exact q⟩)) (by walk_at "v" : TV _ _ _ _ (.bl true)) po_isB (by rfl)) rfl))) rfl) (q _)
end
end Y

/-! ### what the top has written; the head -/
namespace Y
open PySem PySem.Spec PyProof.Rows L2 Z
theorem all_mk {l : PySem.W.OpenLaw} {w : World} {K : PySem.W.Frag} {h : Heap} {mg : Str → Option Value} {fa f0 f1 f2 f3 f4 f5 f6 f7 f8 f9 f10 f11 f12 f13 f14 f15 f16 f17 f18 f19 f20 f21 f22 : Addr} (X : K.In h) (G : h.Ns mainGlobals mg) (hfa : mg "law" = some (.ref fa))
    {od0 an0 od1 an1 od2 an2 od3 an3 od4 an4 od5 an5 od6 an6 od7 an7 od8 an8 od9 an9 od10 an10 od11 an11 od12 an12 od13 an13 od14 an14 od15 an15 od16 an16 od17 an17 od18 an18 od19 an19 od20 an20 od21 an21 od22 an22 : Option Addr} {sl0 sl1 sl2 sl3 sl4 sl5 sl6 sl7 sl8 sl9 sl10 sl11 sl12 sl13 sl14 sl15 sl16 sl17 sl18 sl19 sl20 sl21 sl22 : Array (Option Value)} {oc0 kV0 dc0 pm0 cd0 ct0 oc1 kV1 dc1 pm1 cd1 ct1 oc2 kV2 dc2 pm2 cd2 ct2 oc3 kV3 dc3 pm3 cd3 ct3 oc4 kV4 dc4 pm4 cd4 ct4 oc5 kV5 dc5 pm5 cd5 ct5 oc6 kV6 dc6 pm6 cd6 ct6 oc7 kV7 dc7 pm7 cd7 ct7 oc8 kV8 dc8 pm8 cd8 ct8 oc9 kV9 dc9 pm9 cd9 ct9 oc10 kV10 dc10 pm10 cd10 ct10 oc11 kV11 dc11 pm11 cd11 ct11 oc12 kV12 dc12 pm12 cd12 ct12 oc13 kV13 dc13 pm13 cd13 ct13 oc14 kV14 dc14 pm14 cd14 ct14 oc15 kV15 dc15 pm15 cd15 ct15 oc16 kV16 dc16 pm16 cd16 ct16 oc17 kV17 dc17 pm17 cd17 ct17 oc18 kV18 dc18 pm18 cd18 ct18 oc19 kV19 dc19 pm19 cd19 ct19 oc20 kV20 dc20 pm20 cd20 ct20 oc21 kV21 dc21 pm21 cd21 ct21 oc22 kV22 dc22 pm22 cd22 ct22 : Value}
    (a0 : PySem.W.nsIn K mainGlobals "is_integer" = some (some (.ref f0))) (l0 : K.lookup f0 = some ⟨oc0, od0, .func (PySem.W.fnOf "is_integer" "is_integer" (defArgs s_is_integer) (defBody s_is_integer) (defScope s_is_integer) .none kV0 dc0 pm0 an0 cd0 ct0), sl0⟩) (c0 : PySem.W.codeIn K cd0 "is_integer" = true) (k0 : PySem.W.keepIn K (.ref f0) = true)
    (a1 : PySem.W.nsIn K mainGlobals "is_letters" = some (some (.ref f1))) (l1 : K.lookup f1 = some ⟨oc1, od1, .func (PySem.W.fnOf "is_letters" "is_letters" (defArgs s_is_letters) (defBody s_is_letters) (defScope s_is_letters) .none kV1 dc1 pm1 an1 cd1 ct1), sl1⟩) (c1 : PySem.W.codeIn K cd1 "is_letters" = true) (k1 : PySem.W.keepIn K (.ref f1) = true)
    (a2 : PySem.W.nsIn K mainGlobals "is_row" = some (some (.ref f2))) (l2 : K.lookup f2 = some ⟨oc2, od2, .func (PySem.W.fnOf "is_row" "is_row" (defArgs s_is_row) (defBody s_is_row) (defScope s_is_row) .none kV2 dc2 pm2 an2 cd2 ct2), sl2⟩) (c2 : PySem.W.codeIn K cd2 "is_row" = true) (k2 : PySem.W.keepIn K (.ref f2) = true)
    (a3 : PySem.W.nsIn K mainGlobals "check_row" = some (some (.ref f3))) (l3 : K.lookup f3 = some ⟨oc3, od3, .func (PySem.W.fnOf "check_row" "check_row" (defArgs s_check_row) (defBody s_check_row) (defScope s_check_row) .none kV3 dc3 pm3 an3 cd3 ct3), sl3⟩) (c3 : PySem.W.codeIn K cd3 "check_row" = true) (k3 : PySem.W.keepIn K (.ref f3) = true)
    (a4 : PySem.W.nsIn K mainGlobals "check_width" = some (some (.ref f4))) (l4 : K.lookup f4 = some ⟨oc4, od4, .func (PySem.W.fnOf "check_width" "check_width" (defArgs s_check_width) (defBody s_check_width) (defScope s_check_width) .none kV4 dc4 pm4 an4 cd4 ct4), sl4⟩) (c4 : PySem.W.codeIn K cd4 "check_width" = true) (k4 : PySem.W.keepIn K (.ref f4) = true)
    (a5 : PySem.W.nsIn K mainGlobals "piece_in" = some (some (.ref f5))) (l5 : K.lookup f5 = some ⟨oc5, od5, .func (PySem.W.fnOf "piece_in" "piece_in" (defArgs s_piece_in) (defBody s_piece_in) (defScope s_piece_in) .none kV5 dc5 pm5 an5 cd5 ct5), sl5⟩) (c5 : PySem.W.codeIn K cd5 "piece_in" = true) (k5 : PySem.W.keepIn K (.ref f5) = true)
    (a6 : PySem.W.nsIn K mainGlobals "is_form" = some (some (.ref f6))) (l6 : K.lookup f6 = some ⟨oc6, od6, .func (PySem.W.fnOf "is_form" "is_form" (defArgs s_is_form) (defBody s_is_form) (defScope s_is_form) .none kV6 dc6 pm6 an6 cd6 ct6), sl6⟩) (c6 : PySem.W.codeIn K cd6 "is_form" = true) (k6 : PySem.W.keepIn K (.ref f6) = true)
    (a7 : PySem.W.nsIn K mainGlobals "last_index" = some (some (.ref f7))) (l7 : K.lookup f7 = some ⟨oc7, od7, .func (PySem.W.fnOf "last_index" "last_index" (defArgs s_last_index) (defBody s_last_index) (defScope s_last_index) .none kV7 dc7 pm7 an7 cd7 ct7), sl7⟩) (c7 : PySem.W.codeIn K cd7 "last_index" = true) (k7 : PySem.W.keepIn K (.ref f7) = true)
    (a8 : PySem.W.nsIn K mainGlobals "is_move_of" = some (some (.ref f8))) (l8 : K.lookup f8 = some ⟨oc8, od8, .func (PySem.W.fnOf "is_move_of" "is_move_of" (defArgs s_is_move_of) (defBody s_is_move_of) (defScope s_is_move_of) .none kV8 dc8 pm8 an8 cd8 ct8), sl8⟩) (c8 : PySem.W.codeIn K cd8 "is_move_of" = true) (k8 : PySem.W.keepIn K (.ref f8) = true)
    (a9 : PySem.W.nsIn K mainGlobals "is_move" = some (some (.ref f9))) (l9 : K.lookup f9 = some ⟨oc9, od9, .func (PySem.W.fnOf "is_move" "is_move" (defArgs s_is_move) (defBody s_is_move) (defScope s_is_move) .none kV9 dc9 pm9 an9 cd9 ct9), sl9⟩) (c9 : PySem.W.codeIn K cd9 "is_move" = true) (k9 : PySem.W.keepIn K (.ref f9) = true)
    (a10 : PySem.W.nsIn K mainGlobals "_law_bag" = some (some (.ref f10))) (l10 : K.lookup f10 = some ⟨oc10, od10, .func (PySem.W.fnOf "_law_bag" "_law_bag" (defArgs s_law_bag) (defBody s_law_bag) (defScope s_law_bag) .none kV10 dc10 pm10 an10 cd10 ct10), sl10⟩) (c10 : PySem.W.codeIn K cd10 "_law_bag" = true) (k10 : PySem.W.keepIn K (.ref f10) = true)
    (a11 : PySem.W.nsIn K mainGlobals "_law_stir" = some (some (.ref f11))) (l11 : K.lookup f11 = some ⟨oc11, od11, .func (PySem.W.fnOf "_law_stir" "_law_stir" (defArgs s_law_stir) (defBody s_law_stir) (defScope s_law_stir) .none kV11 dc11 pm11 an11 cd11 ct11), sl11⟩) (c11 : PySem.W.codeIn K cd11 "_law_stir" = true) (k11 : PySem.W.keepIn K (.ref f11) = true)
    (a12 : PySem.W.nsIn K mainGlobals "_law_draw" = some (some (.ref f12))) (l12 : K.lookup f12 = some ⟨oc12, od12, .func (PySem.W.fnOf "_law_draw" "_law_draw" (defArgs s_law_draw) (defBody s_law_draw) (defScope s_law_draw) .none kV12 dc12 pm12 an12 cd12 ct12), sl12⟩) (c12 : PySem.W.codeIn K cd12 "_law_draw" = true) (k12 : PySem.W.keepIn K (.ref f12) = true)
    (a13 : PySem.W.nsIn K mainGlobals "_law_letters" = some (some (.ref f13))) (l13 : K.lookup f13 = some ⟨oc13, od13, .func (PySem.W.fnOf "_law_letters" "_law_letters" (defArgs s_law_letters) (defBody s_law_letters) (defScope s_law_letters) .none kV13 dc13 pm13 an13 cd13 ct13), sl13⟩) (c13 : PySem.W.codeIn K cd13 "_law_letters" = true) (k13 : PySem.W.keepIn K (.ref f13) = true)
    (a14 : PySem.W.nsIn K mainGlobals "_law_windows" = some (some (.ref f14))) (l14 : K.lookup f14 = some ⟨oc14, od14, .func (PySem.W.fnOf "_law_windows" "_law_windows" (defArgs s_law_windows) (defBody s_law_windows) (defScope s_law_windows) .none kV14 dc14 pm14 an14 cd14 ct14), sl14⟩) (c14 : PySem.W.codeIn K cd14 "_law_windows" = true) (k14 : PySem.W.keepIn K (.ref f14) = true)
    (a15 : PySem.W.nsIn K mainGlobals "_law_chain" = some (some (.ref f15))) (l15 : K.lookup f15 = some ⟨oc15, od15, .func (PySem.W.fnOf "_law_chain" "_law_chain" (defArgs s_law_chain) (defBody s_law_chain) (defScope s_law_chain) .none kV15 dc15 pm15 an15 cd15 ct15), sl15⟩) (c15 : PySem.W.codeIn K cd15 "_law_chain" = true) (k15 : PySem.W.keepIn K (.ref f15) = true)
    (a16 : PySem.W.nsIn K mainGlobals "_law_after" = some (some (.ref f16))) (l16 : K.lookup f16 = some ⟨oc16, od16, .func (PySem.W.fnOf "_law_after" "_law_after" (defArgs s_law_after) (defBody s_law_after) (defScope s_law_after) .none kV16 dc16 pm16 an16 cd16 ct16), sl16⟩) (c16 : PySem.W.codeIn K cd16 "_law_after" = true) (k16 : PySem.W.keepIn K (.ref f16) = true)
    (a17 : PySem.W.nsIn K mainGlobals "_law_swap" = some (some (.ref f17))) (l17 : K.lookup f17 = some ⟨oc17, od17, .func (PySem.W.fnOf "_law_swap" "_law_swap" (defArgs s_law_swap) (defBody s_law_swap) (defScope s_law_swap) .none kV17 dc17 pm17 an17 cd17 ct17), sl17⟩) (c17 : PySem.W.codeIn K cd17 "_law_swap" = true) (k17 : PySem.W.keepIn K (.ref f17) = true)
    (a18 : PySem.W.nsIn K mainGlobals "_law_is_move" = some (some (.ref f18))) (l18 : K.lookup f18 = some ⟨oc18, od18, .func (PySem.W.fnOf "_law_is_move" "_law_is_move" (defArgs s_law_is_move) (defBody s_law_is_move) (defScope s_law_is_move) .none kV18 dc18 pm18 an18 cd18 ct18), sl18⟩) (c18 : PySem.W.codeIn K cd18 "_law_is_move" = true) (k18 : PySem.W.keepIn K (.ref f18) = true)
    (a19 : PySem.W.nsIn K mainGlobals "_law_all" = some (some (.ref f19))) (l19 : K.lookup f19 = some ⟨oc19, od19, .func (PySem.W.fnOf "_law_all" "_law_all" (defArgs s_law_all) (defBody s_law_all) (defScope s_law_all) .none kV19 dc19 pm19 an19 cd19 ct19), sl19⟩) (c19 : PySem.W.codeIn K cd19 "_law_all" = true) (k19 : PySem.W.keepIn K (.ref f19) = true)
    (a20 : PySem.W.nsIn K mainGlobals "_law_odd" = some (some (.ref f20))) (l20 : K.lookup f20 = some ⟨oc20, od20, .func (PySem.W.fnOf "_law_odd" "_law_odd" (defArgs s_law_odd) (defBody s_law_odd) (defScope s_law_odd) .none kV20 dc20 pm20 an20 cd20 ct20), sl20⟩) (c20 : PySem.W.codeIn K cd20 "_law_odd" = true) (k20 : PySem.W.keepIn K (.ref f20) = true)
    (a21 : PySem.W.nsIn K mainGlobals "_law_right" = some (some (.ref f21))) (l21 : K.lookup f21 = some ⟨oc21, od21, .func (PySem.W.fnOf "_law_right" "_law_right" (defArgs s_law_right) (defBody s_law_right) (defScope s_law_right) .none kV21 dc21 pm21 an21 cd21 ct21), sl21⟩) (c21 : PySem.W.codeIn K cd21 "_law_right" = true) (k21 : PySem.W.keepIn K (.ref f21) = true)
    (a22 : PySem.W.nsIn K mainGlobals "law" = some (some (.ref f22))) (l22 : K.lookup f22 = some ⟨oc22, od22, .func (PySem.W.fnOf "law" "law" (defArgs s_law) (defBody s_law) (defScope s_law) .none kV22 dc22 pm22 an22 cd22 ct22), sl22⟩) (c22 : PySem.W.codeIn K cd22 "law" = true) (k22 : PySem.W.keepIn K (.ref f22) = true)
    {t0 : Tok} (qc0 : PySem.W.nsIn K mainGlobals "LETTERS" = some (some (.str "abcdefghijklmnopqrstuvwxyz" t0)))
    {t1 : Tok} (qc1 : PySem.W.nsIn K mainGlobals "MOST_LETTERS" = some (some (.int 200 t1)))
    {t2 : Tok} (qc2 : PySem.W.nsIn K mainGlobals "WIDEST" = some (some (.int 12 t2)))
    {t3 : Tok} (qc3 : PySem.W.nsIn K mainGlobals "SWAP" = some (some (.str "swap" t3)))
    {t4 : Tok} (qc4 : PySem.W.nsIn K mainGlobals "TURN" = some (some (.str "turn" t4)))
    {t5 : Tok} (qc5 : PySem.W.nsIn K mainGlobals "GREATEST" = some (some (.int 1000000000000000000000000000000000000000000000000000000000000 t5)))
    (z0 : PySem.W.nsIn K mainGlobals "isinstance" = some none)
    (z1 : PySem.W.nsIn K mainGlobals "len" = some none)
    (z2 : PySem.W.nsIn K mainGlobals "all" = some none)
    (z3 : PySem.W.nsIn K mainGlobals "str" = some none)
    (z4 : PySem.W.nsIn K mainGlobals "int" = some none)
    (z5 : PySem.W.nsIn K mainGlobals "bool" = some none)
    (z6 : PySem.W.nsIn K mainGlobals "tuple" = some none)
    (z7 : PySem.W.nsIn K mainGlobals "range" = some none)
    (z8 : PySem.W.nsIn K mainGlobals "min" = some none)
    (z9 : PySem.W.nsIn K mainGlobals "repr" = some none)
    (z10 : PySem.W.nsIn K mainGlobals "list" = some none)
    (z11 : PySem.W.nsIn K mainGlobals "zip" = some none)
    : ∃ fd : FuncData, (∀ (s : Shared) (v : Value), BindsTo s fd ⟨[v], []⟩ [("_law_script", v)]) ∧ ∀ base : Heap, K.In base → base.Ns mainGlobals mg → (∃ ob, base.get? sysModules = some ob) → FnG l.prog w K mg base 6 fa fd ["_law_script"] (spT K lawSpec) := by
  have e := hfa.symm.trans (PySem.W.mg_of X G a22)
  cases e
  have F_is_integer := fun_mk (st := s_is_integer) l0 c0 k0
  have D_is_integer : DfN K mg "is_integer" ["value", "low", "high"] s_is_integer := ⟨_, _, PySem.W.mg_of X G a0, F_is_integer, F_is_integer.binds (ps := ["value", "low", "high"]) fun _ _ _ _ _ _ us hl => match us, hl with | [_, _, _], _ => rfl⟩
  have F_is_letters := fun_mk (st := s_is_letters) l1 c1 k1
  have D_is_letters : DfN K mg "is_letters" ["value", "low", "high"] s_is_letters := ⟨_, _, PySem.W.mg_of X G a1, F_is_letters, F_is_letters.binds (ps := ["value", "low", "high"]) fun _ _ _ _ _ _ us hl => match us, hl with | [_, _, _], _ => rfl⟩
  have F_is_row := fun_mk (st := s_is_row) l2 c2 k2
  have D_is_row : DfN K mg "is_row" ["value"] s_is_row := ⟨_, _, PySem.W.mg_of X G a2, F_is_row, F_is_row.binds (ps := ["value"]) fun _ _ _ _ _ _ us hl => match us, hl with | [_], _ => rfl⟩
  have F_check_row := fun_mk (st := s_check_row) l3 c3 k3
  have D_check_row : DfN K mg "check_row" ["value"] s_check_row := ⟨_, _, PySem.W.mg_of X G a3, F_check_row, F_check_row.binds (ps := ["value"]) fun _ _ _ _ _ _ us hl => match us, hl with | [_], _ => rfl⟩
  have F_check_width := fun_mk (st := s_check_width) l4 c4 k4
  have D_check_width : DfN K mg "check_width" ["row", "value"] s_check_width := ⟨_, _, PySem.W.mg_of X G a4, F_check_width, F_check_width.binds (ps := ["row", "value"]) fun _ _ _ _ _ _ us hl => match us, hl with | [_, _], _ => rfl⟩
  have F_piece_in := fun_mk (st := s_piece_in) l5 c5 k5
  have D_piece_in : DfN K mg "piece_in" ["row", "width", "index"] s_piece_in := ⟨_, _, PySem.W.mg_of X G a5, F_piece_in, F_piece_in.binds (ps := ["row", "width", "index"]) fun _ _ _ _ _ _ us hl => match us, hl with | [_, _, _], _ => rfl⟩
  have F_is_form := fun_mk (st := s_is_form) l6 c6 k6
  have D_is_form : DfN K mg "is_form" ["value"] s_is_form := ⟨_, _, PySem.W.mg_of X G a6, F_is_form, F_is_form.binds (ps := ["value"]) fun _ _ _ _ _ _ us hl => match us, hl with | [_], _ => rfl⟩
  have F_last_index := fun_mk (st := s_last_index) l7 c7 k7
  have D_last_index : DfN K mg "last_index" ["row", "width"] s_last_index := ⟨_, _, PySem.W.mg_of X G a7, F_last_index, F_last_index.binds (ps := ["row", "width"]) fun _ _ _ _ _ _ us hl => match us, hl with | [_, _], _ => rfl⟩
  have F_is_move_of := fun_mk (st := s_is_move_of) l8 c8 k8
  have D_is_move_of : DfN K mg "is_move_of" ["row", "width", "value"] s_is_move_of := ⟨_, _, PySem.W.mg_of X G a8, F_is_move_of, F_is_move_of.binds (ps := ["row", "width", "value"]) fun _ _ _ _ _ _ us hl => match us, hl with | [_, _, _], _ => rfl⟩
  have F_is_move := fun_mk (st := s_is_move) l9 c9 k9
  have D_is_move : DfN K mg "is_move" ["row", "width", "value"] s_is_move := ⟨_, _, PySem.W.mg_of X G a9, F_is_move, F_is_move.binds (ps := ["row", "width", "value"]) fun _ _ _ _ _ _ us hl => match us, hl with | [_, _, _], _ => rfl⟩
  have F_law_bag := fun_mk (st := s_law_bag) l10 c10 k10
  have D_law_bag : DfN K mg "_law_bag" ["_law_script"] s_law_bag := ⟨_, _, PySem.W.mg_of X G a10, F_law_bag, F_law_bag.binds (ps := ["_law_script"]) fun _ _ _ _ _ _ us hl => match us, hl with | [_], _ => rfl⟩
  have F_law_stir := fun_mk (st := s_law_stir) l11 c11 k11
  have D_law_stir : DfN K mg "_law_stir" ["_law_number", "_law_place"] s_law_stir := ⟨_, _, PySem.W.mg_of X G a11, F_law_stir, F_law_stir.binds (ps := ["_law_number", "_law_place"]) fun _ _ _ _ _ _ us hl => match us, hl with | [_, _], _ => rfl⟩
  have F_law_draw := fun_mk (st := s_law_draw) l12 c12 k12
  have D_law_draw : DfN K mg "_law_draw" ["_law_bag_here", "_law_bound"] s_law_draw := ⟨_, _, PySem.W.mg_of X G a12, F_law_draw, F_law_draw.binds (ps := ["_law_bag_here", "_law_bound"]) fun _ _ _ _ _ _ us hl => match us, hl with | [_, _], _ => rfl⟩
  have F_law_letters := fun_mk (st := s_law_letters) l13 c13 k13
  have D_law_letters : DfN K mg "_law_letters" ["_law_bag_here", "_law_most"] s_law_letters := ⟨_, _, PySem.W.mg_of X G a13, F_law_letters, F_law_letters.binds (ps := ["_law_bag_here", "_law_most"]) fun _ _ _ _ _ _ us hl => match us, hl with | [_, _], _ => rfl⟩
  have F_law_windows := fun_mk (st := s_law_windows) l14 c14 k14
  have D_law_windows : DfN K mg "_law_windows" ["_law_letters_here", "_law_wide"] s_law_windows := ⟨_, _, PySem.W.mg_of X G a14, F_law_windows, F_law_windows.binds (ps := ["_law_letters_here", "_law_wide"]) fun _ _ _ _ _ _ us hl => match us, hl with | [_, _], _ => rfl⟩
  have F_law_chain := fun_mk (st := s_law_chain) l15 c15 k15
  have D_law_chain : DfN K mg "_law_chain" ["_law_some", "_law_wide"] s_law_chain := ⟨_, _, PySem.W.mg_of X G a15, F_law_chain, F_law_chain.binds (ps := ["_law_some", "_law_wide"]) fun _ _ _ _ _ _ us hl => match us, hl with | [_, _], _ => rfl⟩
  have F_law_after := fun_mk (st := s_law_after) l16 c16 k16
  have D_law_after : DfN K mg "_law_after" ["_law_letters_here", "_law_wide", "_law_move"] s_law_after := ⟨_, _, PySem.W.mg_of X G a16, F_law_after, F_law_after.binds (ps := ["_law_letters_here", "_law_wide", "_law_move"]) fun _ _ _ _ _ _ us hl => match us, hl with | [_, _, _], _ => rfl⟩
  have F_law_swap := fun_mk (st := s_law_swap) l17 c17 k17
  have D_law_swap : DfN K mg "_law_swap" ["_law_bag_here", "_law_letters_here", "_law_wide"] s_law_swap := ⟨_, _, PySem.W.mg_of X G a17, F_law_swap, F_law_swap.binds (ps := ["_law_bag_here", "_law_letters_here", "_law_wide"]) fun _ _ _ _ _ _ us hl => match us, hl with | [_, _, _], _ => rfl⟩
  have F_law_is_move := fun_mk (st := s_law_is_move) l18 c18 k18
  have D_law_is_move : DfN K mg "_law_is_move" ["_law_letters_here", "_law_wide", "_law_value"] s_law_is_move := ⟨_, _, PySem.W.mg_of X G a18, F_law_is_move, F_law_is_move.binds (ps := ["_law_letters_here", "_law_wide", "_law_value"]) fun _ _ _ _ _ _ us hl => match us, hl with | [_, _, _], _ => rfl⟩
  have F_law_all := fun_mk (st := s_law_all) l19 c19 k19
  have D_law_all : DfN K mg "_law_all" ["_law_size"] s_law_all := ⟨_, _, PySem.W.mg_of X G a19, F_law_all, F_law_all.binds (ps := ["_law_size"]) fun _ _ _ _ _ _ us hl => match us, hl with | [_], _ => rfl⟩
  have F_law_odd := fun_mk (st := s_law_odd) l20 c20 k20
  have D_law_odd : DfN K mg "_law_odd" ["_law_bag_here", "_law_size", "_law_move"] s_law_odd := ⟨_, _, PySem.W.mg_of X G a20, F_law_odd, F_law_odd.binds (ps := ["_law_bag_here", "_law_size", "_law_move"]) fun _ _ _ _ _ _ us hl => match us, hl with | [_, _, _], _ => rfl⟩
  have F_law_right := fun_mk (st := s_law_right) l21 c21 k21
  have D_law_right : DfN K mg "_law_right" ["_law_letters_here", "_law_wide", "_law_values"] s_law_right := ⟨_, _, PySem.W.mg_of X G a21, F_law_right, F_law_right.binds (ps := ["_law_letters_here", "_law_wide", "_law_values"]) fun _ _ _ _ _ _ us hl => match us, hl with | [_, _, _], _ => rfl⟩
  have F_law := fun_mk (st := s_law) l22 c22 k22
  have D_law : DfN K mg "law" ["_law_script"] s_law := ⟨_, _, PySem.W.mg_of X G a22, F_law, F_law.binds (ps := ["_law_script"]) fun _ _ _ _ _ _ us hl => match us, hl with | [_], _ => rfl⟩
  have b_isinstance : mg "isinstance" = none := PySem.W.mg_none_of X G z0
  have b_len : mg "len" = none := PySem.W.mg_none_of X G z1
  have b_all : mg "all" = none := PySem.W.mg_none_of X G z2
  have b_str : mg "str" = none := PySem.W.mg_none_of X G z3
  have b_int : mg "int" = none := PySem.W.mg_none_of X G z4
  have b_bool : mg "bool" = none := PySem.W.mg_none_of X G z5
  have b_tuple : mg "tuple" = none := PySem.W.mg_none_of X G z6
  have b_range : mg "range" = none := PySem.W.mg_none_of X G z7
  have b_min : mg "min" = none := PySem.W.mg_none_of X G z8
  have b_repr : mg "repr" = none := PySem.W.mg_none_of X G z9
  have b_list : mg "list" = none := PySem.W.mg_none_of X G z10
  have b_zip : mg "zip" = none := PySem.W.mg_none_of X G z11
  have g_LETTERS : GlT K mg "LETTERS" (.str (sOf "abcdefghijklmnopqrstuvwxyz")) := gl_str (PySem.W.mg_of X G qc0)
  have g_MOST_LETTERS : GlT K mg "MOST_LETTERS" (.int 200) := gl_int (PySem.W.mg_of X G qc1)
  have g_WIDEST : GlT K mg "WIDEST" (.int 12) := gl_int (PySem.W.mg_of X G qc2)
  have g_SWAP : GlT K mg "SWAP" (.str (sOf "swap")) := gl_str (PySem.W.mg_of X G qc3)
  have g_TURN : GlT K mg "TURN" (.str (sOf "turn")) := gl_str (PySem.W.mg_of X G qc4)
  have g_GREATEST : GlT K mg "GREATEST" (.int 1000000000000000000000000000000000000000000000000000000000000) := gl_int (PySem.W.mg_of X G qc5)
  refine ⟨PySem.W.fnOf "law" "law" (defArgs s_law) (defBody s_law) (defScope s_law) .none kV22 dc22 pm22 an22 cd22 ct22, fun s v => .of_eq rfl, fun base _ _ sm => ?_⟩
  have r1 := ok_is_letters (P := l.prog) (w := w) (base := base) D_is_letters g_LETTERS b_isinstance b_len b_all b_str
  have r2 := ok_is_row r1 D_is_row g_MOST_LETTERS
  have r3 := ok_is_integerB (P := l.prog) (w := w) (base := base) D_is_integer b_isinstance b_int b_bool
  have r4 := ok_check_row r2 D_check_row
  have r5 := ok_check_widthB r3 g_WIDEST b_min b_len D_check_width
  have r6 := ok_piece_in (P := l.prog) (w := w) (base := base) D_piece_in
  have r7 := ok_is_formG sm r3 g_SWAP g_TURN g_GREATEST b_isinstance b_tuple b_str b_all b_len D_is_form
  have r8 := ok_last_index (P := l.prog) (w := w) (base := base) b_len D_last_index
  have r9 := ok_is_move_ofG r7 r8 r6 g_TURN D_is_move_of
  have r11 := ok_is_moveG r4 r5 r9 D_is_move
  have s1 := ok_bag (P := l.prog) (w := w) (base := base) b_list D_law_bag
  have s2 := ok_stir (P := l.prog) (w := w) (base := base) D_law_stir
  have s3 := ok_drawB s2 b_len D_law_draw
  have s4 := ok_lettersB s3 b_range b_len b_int D_law_letters
  have t1 := ok_winsB (P := l.prog) (w := w) (base := base) b_range b_len D_law_windows
  have t3 := ok_chainB (P := l.prog) (w := w) (base := base) sm b_zip D_law_chain
  have t4 := ok_afterG t1 t3 b_len D_law_after
  have t5 := ok_swapB sm s3 b_len b_range D_law_swap
  have t6 := ok_isMvH sm t4 b_isinstance b_tuple b_len b_str b_int b_bool D_law_is_move
  have t7 := ok_all13 (P := l.prog) (w := w) (base := base) b_range D_law_all
  have t8 := ok_odd13 s3 b_list b_tuple D_law_odd
  have t9 := ok_right13 sm r11 t6 b_repr D_law_right
  exact ok_law13 s1 s3 s4 t7 t8 t9 t5 r11 F_law b_len b_min b_range
end Y
open PySem PySem.W PyProof.Rows
set_option maxRecDepth 100000 in
set_option maxHeartbeats 0 in
theorem PySem.Challenge.cw_windowcounts_k13_moves_judged_holds : PySem.Challenge.rw_windowcounts_k13_moves_judged.Holds := by
  w_on; o_law; k_head; (case hw => w_witness2)
  k_fill
  refine Y.walkT (l := PySem.Challenge.rw_windowcounts_k13_moves_judged) (k := 6) (x := "_law_script") ?hi rfl rfl ⟨rfl, by decide, by decide⟩ (fun w h Y => PySem.W.kIn_of Y) ?F
  case hi => rfl
  case F =>
    intro w mg fa h KX G hmg
    refine' Y.all_mk KX G hmg ?a0 ?l0 ?c0 ?k0 ?a1 ?l1 ?c1 ?k1 ?a2 ?l2 ?c2 ?k2 ?a3 ?l3 ?c3 ?k3 ?a4 ?l4 ?c4 ?k4 ?a5 ?l5 ?c5 ?k5 ?a6 ?l6 ?c6 ?k6 ?a7 ?l7 ?c7 ?k7 ?a8 ?l8 ?c8 ?k8 ?a9 ?l9 ?c9 ?k9 ?a10 ?l10 ?c10 ?k10 ?a11 ?l11 ?c11 ?k11 ?a12 ?l12 ?c12 ?k12 ?a13 ?l13 ?c13 ?k13 ?a14 ?l14 ?c14 ?k14 ?a15 ?l15 ?c15 ?k15 ?a16 ?l16 ?c16 ?k16 ?a17 ?l17 ?c17 ?k17 ?a18 ?l18 ?c18 ?k18 ?a19 ?l19 ?c19 ?k19 ?a20 ?l20 ?c20 ?k20 ?a21 ?l21 ?c21 ?k21 ?a22 ?l22 ?c22 ?k22 ?qc0 ?qc1 ?qc2 ?qc3 ?qc4 ?qc5 ?z0 ?z1 ?z2 ?z3 ?z4 ?z5 ?z6 ?z7 ?z8 ?z9 ?z10 ?z11
    (case a0 => k_is)
    (case l0 => k_is)
    (case c0 => k_is)
    (case k0 => k_is)
    (case a1 => k_is)
    (case l1 => k_is)
    (case c1 => k_is)
    (case k1 => k_is)
    (case a2 => k_is)
    (case l2 => k_is)
    (case c2 => k_is)
    (case k2 => k_is)
    (case a3 => k_is)
    (case l3 => k_is)
    (case c3 => k_is)
    (case k3 => k_is)
    (case a4 => k_is)
    (case l4 => k_is)
    (case c4 => k_is)
    (case k4 => k_is)
    (case a5 => k_is)
    (case l5 => k_is)
    (case c5 => k_is)
    (case k5 => k_is)
    (case a6 => k_is)
    (case l6 => k_is)
    (case c6 => k_is)
    (case k6 => k_is)
    (case a7 => k_is)
    (case l7 => k_is)
    (case c7 => k_is)
    (case k7 => k_is)
    (case a8 => k_is)
    (case l8 => k_is)
    (case c8 => k_is)
    (case k8 => k_is)
    (case a9 => k_is)
    (case l9 => k_is)
    (case c9 => k_is)
    (case k9 => k_is)
    (case a10 => k_is)
    (case l10 => k_is)
    (case c10 => k_is)
    (case k10 => k_is)
    (case a11 => k_is)
    (case l11 => k_is)
    (case c11 => k_is)
    (case k11 => k_is)
    (case a12 => k_is)
    (case l12 => k_is)
    (case c12 => k_is)
    (case k12 => k_is)
    (case a13 => k_is)
    (case l13 => k_is)
    (case c13 => k_is)
    (case k13 => k_is)
    (case a14 => k_is)
    (case l14 => k_is)
    (case c14 => k_is)
    (case k14 => k_is)
    (case a15 => k_is)
    (case l15 => k_is)
    (case c15 => k_is)
    (case k15 => k_is)
    (case a16 => k_is)
    (case l16 => k_is)
    (case c16 => k_is)
    (case k16 => k_is)
    (case a17 => k_is)
    (case l17 => k_is)
    (case c17 => k_is)
    (case k17 => k_is)
    (case a18 => k_is)
    (case l18 => k_is)
    (case c18 => k_is)
    (case k18 => k_is)
    (case a19 => k_is)
    (case l19 => k_is)
    (case c19 => k_is)
    (case k19 => k_is)
    (case a20 => k_is)
    (case l20 => k_is)
    (case c20 => k_is)
    (case k20 => k_is)
    (case a21 => k_is)
    (case l21 => k_is)
    (case c21 => k_is)
    (case k21 => k_is)
    (case a22 => k_is)
    (case l22 => k_is)
    (case c22 => k_is)
    (case k22 => k_is)
    (case qc0 => k_is)
    (case qc1 => k_is)
    (case qc2 => k_is)
    (case qc3 => k_is)
    (case qc4 => k_is)
    (case qc5 => k_is)
    (case z0 => k_is)
    (case z1 => k_is)
    (case z2 => k_is)
    (case z3 => k_is)
    (case z4 => k_is)
    (case z5 => k_is)
    (case z6 => k_is)
    (case z7 => k_is)
    (case z8 => k_is)
    (case z9 => k_is)
    (case z10 => k_is)
    (case z11 => k_is)

