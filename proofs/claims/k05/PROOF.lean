import PyProof.Rows.All
import Wide.All
import OpenK.AllK
import Wide.FinOn
import HandS.ForMost
import HandS.ForExc
import HandS.Wide
import HandS.Walk
import HandS.DictComp
import HandS.Codes
import HandS.IsInst
import HandS.StrMore
import HandS.Style
import HandS.ExcValue
import HandS.ExcInit
import HandS.ExcField
import HandS.ExcIs
import HandS.EndBits
import HandS.NoneIn
import HandS.Hot
import HandS.HotCalls
import HandS.Comp
import HandS.ExcCtx
import HandS.WordsExc
import PyProof.Rows.SortShellAny
import HandS.Small
import HandS.Property
import KE.KOpsOwn
import HandS.OwnEq
import HandS.ClsMeth
import PyProof.InstNe
import PyProof.Rows.SumGenD
import HandS.Sort
import HandS.TryMany
import HandS.ExcInitHot
import KE.LtData
import KE.DatumOrd
import KE.KDictList
import HandS.DictTup
import PyProof.EqKinds
import HandS.Set
import HandS.SetTxt0
import HandS.SetFor
import HandS.Star
import KE.KUnpackStar
import HandS.Finally
import PyProof.SumAny
import HandS.TupAny
import PyProof.NeKinds
import HandS.GenList
import HandS.SortInts
import PySem.Challenge.RW_windowcounts_k05_tables_of_rows
set_option Elab.async false
set_option linter.all false
set_option maxRecDepth 100000
set_option maxHeartbeats 2000000
/-! Z0: a layer of two heaps (what a def knows for good, what stands), expressions evaluated to what a predicate says. -/
namespace Z
open PySem L2
open PyProof.Rows (subscriptTail)

/-! ### canonical readings -/
section
variable {X : Cx}
def cE (X : Cx) (e : Expr) : TE := fun st K Q => ∀ pins s, Inv X pins st K s → wpAny (model X.prog X.w) X.A (eval e X.env) (EP X pins st Q) X.xe s
def cT (X : Cx) (e : Expr) : TT := fun st K Q => ∀ pins s, Inv X pins st K s → wpAny (model X.prog X.w) X.A (isTrue e X.env (eval e X.env)) (TP X pins st Q) X.xe s
def cW (X : Cx) (e : Expr) : TT := fun st K Q => ∀ whole pins s, Inv X pins st K s → wpAny (model X.prog X.w) X.A (isTrue e X.env whole) (TP X pins st Q) X.xe s
def cA (X : Cx) (es : List Expr) : TA := fun st K Q => ∀ pos pins s, Inv X pins st K s → wpAny (model X.prog X.w) X.A (spliced (backTo pos (starEach es X.env))) (AP X pins st Q) X.xe s
def cS (X : Cx) (e : Stmt) : TS := fun D st K => ∀ pins s, Inv X pins st K s → wpAny (model X.prog X.w) X.A (exec e X.env) (SP X pins D) X.xe s
def cB (X : Cx) (e : List Stmt) : TS := fun D st K => ∀ pins s, Inv X pins st K s → wpAny (model X.prog X.w) X.A (execs e X.env) (SP X pins D) X.xe s
def cO (X : Cx) (f : Value → Value → Sem Value) : R2 := fun x y K Q => ∀ pins s st v u, Inv X pins st K s → RelV x v → RelV y u → wpAny (model X.prog X.w) X.A (f v u) (EP X pins st Q) X.xe s
def cU (X : Cx) (f : Value → Sem Value) : V → Hp → VK → Prop := fun x K Q => ∀ pins s st v, Inv X pins st K s → RelV x v → wpAny (model X.prog X.w) X.A (f v) (EP X pins st Q) X.xe s
def cF (X : Cx) (f : Value) : List V → Hp → VK → Prop := fun xs K Q => ∀ pins s st us, Inv X pins st K s → Vals xs us → wpAny (model X.prog X.w) X.A (call f us) (EP X pins st Q) X.xe s
def cM (X : Cx) (id : String) : V → List V → Hp → VK → Prop := fun x xs K Q => ∀ pins s st v us, Inv X pins st K s → RelV x v → Vals xs us → wpAny (model X.prog X.w) X.A (call (.builtin id) (v :: us)) (EP X pins st Q) X.xe s
def cI (X : Cx) : R2 := fun x y K Q => ∀ value slice pins s st v u, Inv X pins st K s → RelV x v → RelV y u → subscripted slice false v u = operate [v, u] (getItem v u) → wpAny (model X.prog X.w) X.A (subscriptTail value slice v u) (EP X pins st Q) X.xe s
def cL (X : Cx) : V → Option Int → Option Int → Hp → VK → Prop := fun x lo hi K Q => ∀ pins s st v vl vu sl, Inv X pins st K s → RelV x v → s.heap.IsSliceOf sl vl vu .none → IsPart vl lo → IsPart vu hi →
    ∃ T id, typeLookup (.type T) "__getitem__" = pure (some (.builtin id)) ∧ s.TypeIs v T ∧ wpAny (model X.prog X.w) X.A (getItem v (.ref sl)) (EP X pins st Q) X.xe s
theorem cE_pe {e : Expr} : PE X e (cE X e) := ⟨fun pins s _ _ _ I h => h pins s I⟩
theorem cT_pt {e : Expr} : PT X e (cT X e) := ⟨fun pins s _ _ _ I h => h pins s I⟩
theorem cW_pw {e : Expr} : PW X e (cW X e) := ⟨fun w pins s _ _ _ I h => h w pins s I⟩
theorem cA_pa {e : List Expr} : PA X e (cA X e) := ⟨fun pos pins s _ _ _ I h => h pos pins s I⟩
theorem cS_ps {e : Stmt} : PS X e (cS X e) := ⟨fun pins s _ _ _ I h => h pins s I⟩
theorem cB_pss {e : List Stmt} : PSs X e (cB X e) := ⟨fun pins s _ _ _ I h => h pins s I⟩
theorem cO_or {f : Value → Value → Sem Value} : OpR X f (cO X f) := fun pins s st _ _ _ v u _ I r q h => h pins s st v u I r q
theorem cU_or {f : Value → Sem Value} : UnR X f (cU X f) := fun pins s st _ _ v _ I r h => h pins s st v I r
theorem cF_cr {f : Value} : CallR X f (cF X f) := fun pins s st _ _ us _ I r h => h pins s st us I r
theorem cM_mt {id : String} : MtR X id (cM X id) := fun pins s st _ _ _ v us _ I r q h => h pins s st v us I r q
theorem cI_ix : IxR X (cI X) := fun value slice pins s st _ _ _ v u _ I r q h hs => h value slice pins s st v u I r q hs
theorem cL_sl : SlR X (cL X) := fun pins s st _ _ v vl vu _ _ sl _ I r hs pl pu h => h pins s st v vl vu sl I r hs pl pu
variable {st : St} {K : Hp}
theorem cE_of {e : Expr} {t : TE} {Q : VK} (h : PE X e t) (q : t st K Q) : cE X e st K Q := fun pins s I => h.run pins s st K Q I q
theorem cT_of {e : Expr} {t : TT} {Q : Bool → Hp → Prop} (h : PT X e t) (q : t st K Q) : cT X e st K Q := fun pins s I => h.run pins s st K Q I q
theorem cW_of {e : Expr} {t : TT} {Q : Bool → Hp → Prop} (h : PW X e t) (q : t st K Q) : cW X e st K Q := fun w pins s I => h.run w pins s st K Q I q
theorem cA_of {e : List Expr} {t : TA} {Q : List V → Hp → Prop} (h : PA X e t) (q : t st K Q) : cA X e st K Q := fun pos pins s I => h.run pos pins s st K Q I q
theorem cS_of {e : Stmt} {t : TS} {D : Ends} (h : PS X e t) (q : t D st K) : cS X e D st K := fun pins s I => h.run pins s st K D I q
theorem cB_of {e : List Stmt} {t : TS} {D : Ends} (h : PSs X e t) (q : t D st K) : cB X e D st K := fun pins s I => h.run pins s st K D I q
theorem cO_of {f : Value → Value → Sem Value} {r : R2} {x y : V} {Q : VK} (h : OpR X f r) (q : r x y K Q) : cO X f x y K Q := fun pins s st v u I a b => h pins s st K x y v u Q I a b q
theorem cU_of {f : Value → Sem Value} {r : V → Hp → VK → Prop} {x : V} {Q : VK} (h : UnR X f r) (q : r x K Q) : cU X f x K Q := fun pins s st v I a => h pins s st K x v Q I a q
theorem cF_of {f : Value} {r : List V → Hp → VK → Prop} {xs : List V} {Q : VK} (h : CallR X f r) (q : r xs K Q) : cF X f xs K Q := fun pins s st us I a => h pins s st K xs us Q I a q
theorem cM_of {id : String} {r : V → List V → Hp → VK → Prop} {x : V} {xs : List V} {Q : VK} (h : MtR X id r) (q : r x xs K Q) : cM X id x xs K Q := fun pins s st v us I a b => h pins s st K x xs v us Q I a b q
theorem cI_of {r : R2} {x y : V} {Q : VK} (h : IxR X r) (q : r x y K Q) : cI X x y K Q := fun value slice pins s st v u I a b hs => h value slice pins s st K x y v u Q I a b q hs
theorem cL_of {r : V → Option Int → Option Int → Hp → VK → Prop} {x : V} {lo hi : Option Int} {Q : VK} (h : SlR X r) (q : r x lo hi K Q) : cL X x lo hi K Q := fun pins s st v vl vu sl I a hs pl pu => h pins s st K x v vl vu lo hi sl Q I a hs pl pu q
end

/-! ### two heaps -/
/-- what is known for good stands (a dict may be walked meanwhile) -/
def Rdd (K : Hp) (a : Addr) (o : HO) : Prop := K a = some o ∨ ∃ kvs ob, o = .dK kvs ∧ K a = some (.frz ob (.dK kvs))
def Le (H K : Hp) : Prop := ∀ a o, H a = some o → Rdd K a o
theorem Le.of_same {H K : Hp} (h : Same H K) : Le H K := fun a o e => .inl (h a o e)
theorem Same.le {H H' K : Hp} (h : Same H H') (l : Le H' K) : Le H K := fun a o e => l a o (h a o e)
theorem Rdd.rd {K : Hp} {a : Addr} {o : HO} (h : Rdd K a o) : Rd K a o := by
  rcases h with h | ⟨kvs, ob, rfl, h⟩
  · exact .inl h
  · exact .inr ⟨ob, h⟩
theorem Le.none {H K : Hp} (l : Le H K) {a : Addr} (h : K a = .none) : H a = .none := by
  cases e : H a with
  | none => rfl
  | some o =>
    rcases l a o e with q | ⟨_, _, _, q⟩
    · rw [h] at q; cases q
    · rw [h] at q; cases q
/-- exact where it is no dict -/
theorem Le.get {H K : Hp} (l : Le H K) {a : Addr} {o : HO} (h : H a = some o) (nd : ∀ kvs, o ≠ .dK kvs) : K a = some o := by
  rcases l a o h with q | ⟨kvs, _, e, _⟩
  · exact q
  · exact absurd e (nd kvs)
theorem le_rd {H K : Hp} {a : Addr} {o : HO} (l : Le H K) (h : Rd H a o) : Rd K a o := by
  rcases h with h | ⟨ob, h⟩
  · exact (l a o h).rd
  · exact .inr ⟨ob, l.get h (fun kvs q => nomatch q)⟩
theorem le_sql {F : PySem.W.Frag} {H K : Hp} {a : Addr} {xs : List V} (l : Le H K) (h : SqL F H a xs) : SqL F K a xs := by
  rcases h with h | h
  · exact .inl (le_rd l h)
  · exact .inr h
theorem le_sqt {F : PySem.W.Frag} {H K : Hp} {a : Addr} {xs : List V} (l : Le H K) (h : SqT F H a xs) : SqT F K a xs := by
  rcases h with h | h
  · exact .inl (le_rd l h)
  · exact .inr h

/-- a mode: the objects S that may change, what R is true of them -/
structure Md where
  S : Addr → Prop
  R : Hp → Hp → Prop
  loc : ∀ H K K', (∀ a, S a → K' a = K a) → R H K → R H K'
  mono : ∀ H H' K, Same H H' → R H K → R H' K
  dom : ∀ H K a, R H K → S a → K a ≠ none
/-- nothing changes -/
def pureM : Md := ⟨fun _ => False, fun _ _ => True, fun _ _ _ _ _ => trivial, fun _ _ _ _ _ => trivial, fun _ _ _ _ h => h.elim⟩
structure J (M : Md) (H K : Hp) : Prop where
  le : Le H K
  off : ∀ a, M.S a → H a = none
  r : M.R H K
structure Go (M M' : Md) (H K H' K' : Hp) : Prop where
  j : J M' H' K'
  b : Same H H'
  k : ∀ a o, ¬ M.S a → K a = some o → K' a = some o
  f : ∀ a, H a = none → H' a ≠ none → K a = none
  d : ∀ a, K a ≠ none → K' a ≠ none
  s : M'.S = M.S
theorem Go.refl {M : Md} {H K : Hp} (j : J M H K) : Go M M H K H K := ⟨j, Same.refl H, fun _ _ _ h => h, fun _ h n => absurd h n, fun _ h => h, rfl⟩
theorem Go.trans {M M1 M2 : Md} {H K H1 K1 H2 K2 : Hp} (g : Go M M1 H K H1 K1) (g2 : Go M1 M2 H1 K1 H2 K2) : Go M M2 H K H2 K2 where
  j := g2.j
  b := g.b.trans g2.b
  k := fun a o n h => g2.k a o (by rw [g.s]; exact n) (g.k a o n h)
  f := fun a h n => by
    by_cases h1 : H1 a = none
    · have := g2.f a h1 n
      cases e : K a with
      | none => rfl
      | some o => exact absurd this (g.d a (by rw [e]; intro z; cases z))
    · exact g.f a h h1
  d := fun a h => g2.d a (g.d a h)
  s := g2.s.trans g.s
/-- an object of one's own: not known for good, it may still change -/
structure Own (M : Md) (H K : Hp) (p : Addr) (u : HO) : Prop where
  ns : ¬ M.S p
  h : H p = none
  k : K p = some u
theorem Go.own {M M' : Md} {H K H' K' : Hp} (g : Go M M' H K H' K') {p : Addr} {u : HO} (o : Own M H K p u) : Own M' H' K' p u := by
  refine ⟨by rw [g.s]; exact o.ns, ?_, g.k p u o.ns o.k⟩
  cases e : H' p with
  | none => rfl
  | some w =>
    have := g.f p o.h (by rw [e]; intro z; cases z)
    rw [o.k] at this; cases this
theorem J.fresh {M : Md} {H K : Hp} (j : J M H K) {p : Addr} (h : K p = none) : H p = none := j.le.none h
theorem J.nS {M : Md} {H K : Hp} (j : J M H K) {p : Addr} (h : K p = none) : ¬ M.S p := fun s => M.dom H K p j.r s h
theorem same_upd {H : Hp} {p : Addr} {o : HO} (h : H p = none) : Same H (upd H p o) := fun a u e => by
  rw [upd_ne (ne_of_none e h)]
  exact e
/-- a new object, known for good -/
theorem Go.new {M : Md} {H K : Hp} (j : J M H K) {p : Addr} {o : HO} (h : K p = none) : Go M M H K (upd H p o) (upd K p o) where
  j := {
    le := fun a u e => by
      by_cases q : a = p
      · subst q
        rw [upd_same] at e
        cases e
        exact .inl upd_same
      · rw [upd_ne q] at e
        unfold Rdd
        rw [upd_ne q]
        exact j.le a u e
    off := fun a s => by
      have q : a ≠ p := fun z => M.dom H K a j.r s (by rw [z]; exact h)
      rw [upd_ne q]
      exact j.off a s
    r := M.mono H _ _ (same_upd (j.fresh h)) (M.loc H K _ (fun a s => by
      have q : a ≠ p := fun z => M.dom H K a j.r s (by rw [z]; exact h)
      rw [upd_ne q]) j.r) }
  b := same_upd (j.fresh h)
  k := fun a u _ e => by rw [upd_ne (ne_of_none e h)]; exact e
  f := fun a e n => by
    by_cases q : a = p
    · rw [q]; exact h
    · rw [upd_ne q] at n; exact absurd e n
  d := fun a n => by
    by_cases q : a = p
    · rw [q, upd_same]; intro z; cases z
    · rw [upd_ne q]; exact n
  s := rfl
/-- a new object of one's own -/
theorem Go.newOwn {M : Md} {H K : Hp} (j : J M H K) {p : Addr} {o : HO} (h : K p = none) : Go M M H K H (upd K p o) where
  j := {
    le := fun a u e => by
      have q : a ≠ p := fun z => by
        have e2 : H p = none := j.fresh h
        rw [z, e2] at e; cases e
      unfold Rdd
      rw [upd_ne q]
      exact j.le a u e
    off := j.off
    r := M.loc H K _ (fun a s => by
      have q : a ≠ p := fun z => M.dom H K a j.r s (by rw [z]; exact h)
      rw [upd_ne q]) j.r }
  b := Same.refl H
  k := fun a u _ e => by rw [upd_ne (ne_of_none e h)]; exact e
  f := fun a e n => absurd e n
  d := fun a n => by
    by_cases q : a = p
    · rw [q, upd_same]; intro z; cases z
    · rw [upd_ne q]; exact n
  s := rfl
theorem Own.new {M : Md} {H K : Hp} (j : J M H K) {p : Addr} {o : HO} (h : K p = none) : Own M H (upd K p o) p o := ⟨j.nS h, j.fresh h, upd_same⟩
theorem J.setOwn {M : Md} {H K : Hp} (j : J M H K) {p : Addr} {u o : HO} (w : Own M H K p u) : J M H (upd K p o) where
  le := fun a u e => by
    have q : a ≠ p := fun z => by rw [z, w.h] at e; cases e
    unfold Rdd
    rw [upd_ne q]
    exact j.le a u e
  off := j.off
  r := M.loc H K _ (fun a s => by
    have q : a ≠ p := fun z => w.ns (by rw [← z]; exact s)
    rw [upd_ne q]) j.r
/-- one's own object changes: from an entry (H0, K0) that doesn't know it -/
theorem Go.setOwn {M0 M : Md} {H0 K0 H K : Hp} (g : Go M0 M H0 K0 H K) {p : Addr} {o u : HO} (n0 : K0 p = none) (w : Own M H K p u) : Go M0 M H0 K0 H (upd K p o) where
  j := g.j.setOwn w
  b := g.b
  k := fun a v n e => by rw [upd_ne (ne_of_none e n0)]; exact g.k a v n e
  f := g.f
  d := fun a n => by
    by_cases q : a = p
    · rw [q, upd_same]; intro z; cases z
    · rw [upd_ne q]; exact g.d a n
  s := g.s
theorem Own.set {M : Md} {H K : Hp} {p : Addr} {o u : HO} (w : Own M H K p u) : Own M H (upd K p o) p o := ⟨w.ns, w.h, upd_same⟩
theorem Own.other {M : Md} {H K : Hp} {p q : Addr} {o u : HO} (w : Own M H K p u) (n : p ≠ q) : Own M H (upd K q o) p u := ⟨w.ns, w.h, by rw [upd_ne n]; exact w.k⟩
/-- it is known for good from now on -/
theorem J.keep {M : Md} {H K : Hp} (j : J M H K) {p : Addr} {u : HO} (w : Own M H K p u) : J M (upd H p u) K where
  le := fun a v e => by
    by_cases q : a = p
    · subst q
      rw [upd_same] at e
      cases e
      exact .inl w.k
    · rw [upd_ne q] at e
      exact j.le a v e
  off := fun a s => by
    have q : a ≠ p := fun z => w.ns (by rw [← z]; exact s)
    rw [upd_ne q]
    exact j.off a s
  r := M.mono H _ _ (same_upd w.h) j.r
theorem Go.keep {M0 M : Md} {H0 K0 H K : Hp} (g : Go M0 M H0 K0 H K) {p : Addr} {u : HO} (n0 : K0 p = none) (w : Own M H K p u) : Go M0 M H0 K0 (upd H p u) K where
  j := g.j.keep w
  b := g.b.trans (same_upd w.h)
  k := g.k
  f := fun a e n => by
    by_cases q : a = p
    · rw [q]; exact n0
    · rw [upd_ne q] at n; exact g.f a e n
  d := g.d
  s := g.s
theorem Own.stay {M : Md} {H K : Hp} {p q : Addr} {o u : HO} (w : Own M H K p u) (n : p ≠ q) : Own M (upd H q o) K p u := ⟨w.ns, by rw [upd_ne n]; exact w.h, w.k⟩
theorem Own.ne {M : Md} {H K : Hp} {p q : Addr} {o u : HO} (w : Own M H K p u) (w' : Own M H K q o) (d : u ≠ o) : p ≠ q := fun e => by
  subst e
  have := w.k.symm.trans w'.k
  exact d (Option.some.inj this)

/-! ### the context -/
structure Ct where
  P : Program
  w : World
  K : PySem.W.Frag
  mg : Str → Option Value
  base : Heap
  N : List Str
  sc : Scope
  k : Nat
  Wx : WX
  fa : Bool
inductive Con : Ct → Cx → Prop
  | mk (X : Cx) (k : Nat) (Wx : WX) (fa : Bool) (hr : Room k X.A) (hc : X.calm = true) (hp : PassesOwn (model X.prog X.w) X.A X.env X.xe) (ht : Takes X Wx) (hf : fa = true → ∀ x, X.fn x = true) (hN : X.N.Nodup) (hG : X.A.guards = some []) :
    Con ⟨X.prog, X.w, X.K, X.mg, X.base, X.N, X.env.scope, k, Wx, fa⟩ X
abbrev GlS (c : Ct) (x : Str) : Prop := c.sc.names.lookup x = some .globalImplicit
abbrev W0 : XK := fun _ _ _ => False
class Mono (P : VK) : Prop where
  mono : ∀ v H H', Same H H' → P v H → P v H'
abbrev Is (c : V) : VK := fun v _ => v = c
instance : Mono (Is c) := ⟨fun _ _ _ _ h => h⟩
/-- a list, a tuple of these -/
def IsL (xs : List V) : VK := fun v H => ∃ p, v = .ref p ∧ H p = some (.lst xs)
def IsT (xs : List V) : VK := fun v H => ∃ p, v = .ref p ∧ H p = some (.tup xs)
def IsD (kvs : List (Key × V)) : VK := fun v H => ∃ p, v = .ref p ∧ H p = some (.dK kvs)
theorem Le.lst {H K : Hp} (l : Le H K) {a : Addr} {xs : List V} (h : H a = some (.lst xs)) : K a = some (.lst xs) := l.get h (fun _ q => nomatch q)
theorem Le.tup {H K : Hp} (l : Le H K) {a : Addr} {xs : List V} (h : H a = some (.tup xs)) : K a = some (.tup xs) := l.get h (fun _ q => nomatch q)
/-- an int of which f is true -/
def Nt (f : Int → Prop) : VK := fun v _ => ∃ i, v = .int i ∧ f i
def St1 (f : Str → Prop) : VK := fun v _ => ∃ i, v = .str i ∧ f i
theorem same_sql {F : PySem.W.Frag} {H K : Hp} {a : Addr} {xs : List V} (l : Same H K) (h : SqL F H a xs) : SqL F K a xs := l.seq h
theorem same_sqt {F : PySem.W.Frag} {H K : Hp} {a : Addr} {xs : List V} (l : Same H K) (h : SqT F H a xs) : SqT F K a xs := by
  rcases h with (h | ⟨o, h⟩) | h
  · exact .inl (.inl (l _ _ h))
  · exact .inl (.inr ⟨o, l _ _ h⟩)
  · exact .inr h
instance {xs : List V} : Mono (IsL xs) := ⟨fun _ _ _ s ⟨p, e, h⟩ => ⟨p, e, s _ _ h⟩⟩
instance {xs : List V} : Mono (IsT xs) := ⟨fun _ _ _ s ⟨p, e, h⟩ => ⟨p, e, s _ _ h⟩⟩
instance {kvs : List (Key × V)} : Mono (IsD kvs) := ⟨fun _ _ _ s ⟨p, e, h⟩ => ⟨p, e, s _ _ h⟩⟩
instance {f : Int → Prop} : Mono (Nt f) := ⟨fun _ _ _ _ h => h⟩
instance {f : Str → Prop} : Mono (St1 f) := ⟨fun _ _ _ _ h => h⟩

/-! ### what evaluates to what -/
/-- e evaluates to a v of which P is true, from the mode M to the mode M'; or an error leaves, of which W is true -/
structure Ev (c : Ct) (M M' : Md) (e : Expr) (st : St) (H : Hp) (P : VK) (W : XK) : Prop where
  run : ∀ X, Con c X → ∀ K, J M H K → ∀ Q : VK, (∀ v H' K', Go M M' H K H' K' → P v H' → Q v K') → (∀ Mx cls d H' K', Go M Mx H K H' K' → W cls d H' → c.Wx cls d st K') → cE X e st K Q
structure EvT (c : Ct) (M M' : Md) (e : Expr) (st : St) (H : Hp) (P : Bool → Hp → Prop) (W : XK) : Prop where
  run : ∀ X, Con c X → ∀ K, J M H K → ∀ Q : Bool → Hp → Prop, (∀ v H' K', Go M M' H K H' K' → P v H' → Q v K') → (∀ Mx cls d H' K', Go M Mx H K H' K' → W cls d H' → c.Wx cls d st K') → cT X e st K Q
structure EvW (c : Ct) (M M' : Md) (e : Expr) (st : St) (H : Hp) (P : Bool → Hp → Prop) (W : XK) : Prop where
  run : ∀ X, Con c X → ∀ K, J M H K → ∀ Q : Bool → Hp → Prop, (∀ v H' K', Go M M' H K H' K' → P v H' → Q v K') → (∀ Mx cls d H' K', Go M Mx H K H' K' → W cls d H' → c.Wx cls d st K') → cW X e st K Q
structure EvA (c : Ct) (M M' : Md) (es : List Expr) (st : St) (H : Hp) (P : List V → Hp → Prop) (W : XK) : Prop where
  run : ∀ X, Con c X → ∀ K, J M H K → ∀ Q : List V → Hp → Prop, (∀ v H' K', Go M M' H K H' K' → P v H' → Q v K') → (∀ Mx cls d H' K', Go M Mx H K H' K' → W cls d H' → c.Wx cls d st K') → cA X es st K Q
/-- an operation by values -/
structure Op2 (c : Ct) (M : Md) (f : Value → Value → Sem Value) (x y : V) (H : Hp) (P : VK) : Prop where
  run : ∀ X, Con c X → ∀ K, J M H K → ∀ Q : VK, (∀ v H' K', Go M M H K H' K' → P v H' → Q v K') → cO X f x y K Q
structure Op1 (c : Ct) (M : Md) (f : Value → Sem Value) (x : V) (H : Hp) (P : VK) : Prop where
  run : ∀ X, Con c X → ∀ K, J M H K → ∀ Q : VK, (∀ v H' K', Go M M H K H' K' → P v H' → Q v K') → cU X f x K Q
structure OpI (c : Ct) (M : Md) (x y : V) (H : Hp) (P : VK) : Prop where
  run : ∀ X, Con c X → ∀ K, J M H K → ∀ Q : VK, (∀ v H' K', Go M M H K H' K' → P v H' → Q v K') → cI X x y K Q
structure OpL (c : Ct) (M : Md) (x : V) (lo hi : Option Int) (H : Hp) (P : VK) : Prop where
  run : ∀ X, Con c X → ∀ K, J M H K → ∀ Q : VK, (∀ v H' K', Go M M H K H' K' → P v H' → Q v K') → cL X x lo hi K Q
/-- a call by values -/
structure OpF (c : Ct) (M : Md) (f : Value) (xs : List V) (H : Hp) (P : VK) : Prop where
  run : ∀ X, Con c X → ∀ K, J M H K → ∀ Q : VK, (∀ v H' K', Go M M H K H' K' → P v H' → Q v K') → cF X f xs K Q
structure OpM (c : Ct) (M : Md) (id : String) (x : V) (xs : List V) (H : Hp) (P : VK) : Prop where
  run : ∀ X, Con c X → ∀ K, J M H K → ∀ Q : VK, (∀ v H' K', Go M M H K H' K' → P v H' → Q v K') → cM X id x xs K Q
section
variable {c : Ct} {M M1 M2 M3 : Md} {st : St} {H : Hp} {P P1 P2 P3 : VK} {W : XK} {e a b t : Expr} {es : List Expr} {pos : Pos} {v : V}
theorem Ev.imp (h : Ev c M M1 e st H P W) (k : ∀ v H', Same H H' → P v H' → P1 v H') : Ev c M M1 e st H P1 W := .mk fun X hX K j Q q x => h.run X hX K j Q (fun v H' K' g p => q v H' K' g (k v H' g.b p)) x
theorem EvT.imp {P P1 : Bool → Hp → Prop} (h : EvT c M M1 e st H P W) (k : ∀ v H', Same H H' → P v H' → P1 v H') : EvT c M M1 e st H P1 W := .mk fun X hX K j Q q x => h.run X hX K j Q (fun v H' K' g p => q v H' K' g (k v H' g.b p)) x
theorem EvA.imp {P P1 : List V → Hp → Prop} (h : EvA c M M1 es st H P W) (k : ∀ v H', Same H H' → P v H' → P1 v H') : EvA c M M1 es st H P1 W := .mk fun X hX K j Q q x => h.run X hX K j Q (fun v H' K' g p => q v H' K' g (k v H' g.b p)) x
theorem Ev.to (h : Ev c M M1 e st H P W) (k : P = P1) : Ev c M M1 e st H P1 W := k ▸ h
theorem Op2.imp {f : Value → Value → Sem Value} {x y : V} (h : Op2 c M f x y H P) (k : ∀ v H', Same H H' → P v H' → P1 v H') : Op2 c M f x y H P1 := .mk fun X hX K j Q q => h.run X hX K j Q fun v H' K' g p => q v H' K' g (k v H' g.b p)

/-! names and constants -/
theorem ev_var {i : Nat} {x : Str} (hN : c.N[i]? = some x) (hs : st[i]? = some (some v)) (hv : Vis c.sc x) (hd : (x == ("__debug__" : Str)) = false := by decide) (hcd : (x == ("__classdict__" : Str)) = false := by decide) :
    Ev c M M (.Name x pos) st H (Is v) W := .mk fun X hX K j Q q _ => by
  cases hX
  exact cE_of (pe_var hN hv hd hcd) ⟨v, hs, q v H K (.refl j) rfl⟩
theorem ev_int {i : Int} {k : Nat} : Ev c M M (.Constant (.int i) k pos) st H (Is (.int i)) W := .mk fun X hX K j Q q _ => cE_of pe_int (q _ H K (.refl j) rfl)
theorem ev_str {i : Str} {k : Nat} : Ev c M M (.Constant (.str i) k pos) st H (Is (.str i)) W := .mk fun X hX K j Q q _ => cE_of pe_str (q _ H K (.refl j) rfl)
theorem ev_bl {i : Bool} {k : Nat} : Ev c M M (.Constant (.bool i) k pos) st H (Is (.bl i)) W := .mk fun X hX K j Q q _ => cE_of pe_bl (q _ H K (.refl j) rfl)
theorem ev_non {k : Nat} : Ev c M M (.Constant .none k pos) st H (Is .non) W := .mk fun X hX K j Q q _ => cE_of pe_non (q _ H K (.refl j) rfl)
theorem ev_glob {x : Str} {u : Value} (hg : GlS c x) (hm : c.mg x = some u) (r : RelV v u) (hd : (x == ("__debug__" : Str)) = false := by decide) : Ev c M M (.Name x pos) st H (Is v) W := .mk fun X hX K j Q q _ => by
  cases hX
  exact cE_of (pe_glob hg hm r hd) (q _ H K (.refl j) rfl)
theorem ev_bltn {x : Str} {u : Value} (hg : GlS c x) (hm : c.mg x = none) (hv : bootBuiltins x = some u) (r : RelV v u) (hn : x ≠ "__name__" := by decide) (hd : (x == ("__debug__" : Str)) = false := by decide) : Ev c M M (.Name x pos) st H (Is v) W := .mk fun X hX K j Q q _ => by
  cases hX
  exact cE_of (pe_bltn hg hm hv r hn hd) (q _ H K (.refl j) rfl)

/-! operators -/
theorem ev_bin {op : Operator} (ha : Ev c M M1 a st H P1 W) (hb : ∀ H', Same H H' → Ev c M1 M2 b st H' P2 W) (mo : Mono P1) (ho : ∀ x y H', Same H H' → P1 x H' → P2 y H' → Op2 c M2 (binaryOp op) x y H' P) : Ev c M M2 (.BinOp a op b pos) st H P W := .mk fun X hX K j Q q x => by
  refine cE_of (pe_op cO_or cE_pe cE_pe) ?_
  refine ha.run X hX K j _ (fun x1 H1 K1 g1 p1 => ?_) x
  refine (hb H1 g1.b).run X hX K1 g1.j _ (fun y H2 K2 g2 p2 => ?_) (fun Mx cls d H' K' g w => x Mx cls d H' K' (g1.trans g) w)
  refine (ho x1 y H2 (g1.b.trans g2.b) (mo.mono _ _ _ g2.b p1) p2).run X hX K2 g2.j _ (fun v H3 K3 g3 p3 => ?_)
  exact q v H3 K3 (g1.trans (g2.trans g3)) p3
theorem ev_un {op : UnaryOp} (ha : Ev c M M1 a st H P1 W) (ho : ∀ x H', Same H H' → P1 x H' → Op1 c M1 (unaryOp op) x H' P) : Ev c M M1 (.UnaryOp op a pos) st H P W := .mk fun X hX K j Q q x => by
  refine cE_of (pe_un cU_or cE_pe) ?_
  refine ha.run X hX K j _ (fun x1 H1 K1 g1 p1 => ?_) x
  refine (ho x1 H1 g1.b p1).run X hX K1 g1.j _ (fun v H3 K3 g3 p3 => ?_)
  exact q v H3 K3 (g1.trans g3) p3
theorem ev_cmp {op : CmpOp} (ha : Ev c M M1 a st H P1 W) (hb : ∀ H', Same H H' → Ev c M1 M2 b st H' P2 W) (mo : Mono P1) (ho : ∀ x y H', Same H H' → P1 x H' → P2 y H' → Op2 c M2 (compareOp op) x y H' P) (hm : behindInMarks op b = false) : Ev c M M2 (.Compare a [op] [b] pos) st H P W := .mk fun X hX K j Q q x => by
  refine cE_of (pe_cmpR cO_or cE_pe cE_pe hm) ?_
  refine ha.run X hX K j _ (fun x1 H1 K1 g1 p1 => ?_) x
  refine (hb H1 g1.b).run X hX K1 g1.j _ (fun y H2 K2 g2 p2 => ?_) (fun Mx cls d H' K' g w => x Mx cls d H' K' (g1.trans g) w)
  refine (ho x1 y H2 (g1.b.trans g2.b) (mo.mono _ _ _ g2.b p1) p2).run X hX K2 g2.j _ (fun v H3 K3 g3 p3 => ?_)
  exact q v H3 K3 (g1.trans (g2.trans g3)) p3
theorem ev_sub (ha : Ev c M M1 a st H P1 W) (hb : ∀ H', Same H H' → Ev c M1 M2 b st H' P2 W) (mo : Mono P1) (ho : ∀ x y H', Same H H' → P1 x H' → P2 y H' → OpI c M2 x y H' P) (hs : PlainIx b := by exact fun _ _ => rfl) : Ev c M M2 (.Subscript a b pos) st H P W := .mk fun X hX K j Q q x => by
  refine cE_of (pe_ix cI_ix cE_pe cE_pe hs) ?_
  refine ha.run X hX K j _ (fun x1 H1 K1 g1 p1 => ?_) x
  refine (hb H1 g1.b).run X hX K1 g1.j _ (fun y H2 K2 g2 p2 => ?_) (fun Mx cls d H' K' g w => x Mx cls d H' K' (g1.trans g) w)
  refine (ho x1 y H2 (g1.b.trans g2.b) (mo.mono _ _ _ g2.b p1) p2).run X hX K2 g2.j _ (fun v H3 K3 g3 p3 => ?_)
  exact q v H3 K3 (g1.trans (g2.trans g3)) p3
/-- an optional part of a slice -/
def EvO (c : Ct) (M M' : Md) (o : Option Expr) (st : St) (H : Hp) (f : Option Int → Prop) (W : XK) : Prop :=
  match o with
  | none => M' = M ∧ f none
  | some e => Ev c M M' e st H (Nt fun i => f (some i)) W
theorem eo_none : EvO c M M none st H (· = none) W := ⟨rfl, rfl⟩
theorem eo_some {i : Int} (h : Ev c M M1 e st H (Is (.int i)) W) : EvO c M M1 (some e) st H (· = some i) W := h.imp fun v H' _ e => ⟨i, e, rfl⟩
theorem eo_someN {f : Int → Prop} (h : Ev c M M1 e st H (Nt f) W) : EvO c M M1 (some e) st H (fun o => ∃ i, o = some i ∧ f i) W := h.imp fun v H' _ ⟨i, e, h⟩ => ⟨i, e, i, rfl, h⟩
theorem ev_slice {lo hi : Option Expr} {f g : Option Int → Prop} {p2 : Pos} (ha : Ev c M M1 a st H P1 W) (hl : ∀ H', Same H H' → EvO c M1 M2 lo st H' f W) (hu : ∀ H', Same H H' → EvO c M2 M3 hi st H' g W)
    (mo : Mono P1) (ho : ∀ x l u H', Same H H' → P1 x H' → f l → g u → OpL c M3 x l u H' P) : Ev c M M3 (.Subscript a (.Slice lo hi none p2) pos) st H P W := .mk fun X hX K j Q q x => by
  -- the readings of the parts are chosen ahead of the run
  cases lo with
  | none =>
    cases hi with
    | none =>
      refine cE_of (pe_slice cL_sl cE_pe po_none po_none) ?_
      refine ha.run X hX K j _ (fun x1 H1 K1 g1 p1 => ?_) x
      obtain ⟨rfl, z1⟩ := hl H1 g1.b
      obtain ⟨rfl, z2⟩ := hu H1 g1.b
      exact (ho x1 none none H1 g1.b p1 z1 z2).run X hX K1 g1.j _ (fun v H3 K3 g3 p3 => q v H3 K3 (g1.trans g3) p3)
    | some u =>
      refine cE_of (pe_slice cL_sl cE_pe po_none (po_some cE_pe)) ?_
      refine ha.run X hX K j _ (fun x1 H1 K1 g1 p1 => ?_) x
      obtain ⟨rfl, z1⟩ := hl H1 g1.b
      refine (hu H1 g1.b).run X hX K1 g1.j _ (fun y H2 K2 g2 ⟨i, ei, hi⟩ => ?_) (fun Mx cls d H' K' g w => x Mx cls d H' K' (g1.trans g) w)
      exact ⟨i, ei, (ho x1 none (some i) H2 (g1.b.trans g2.b) (mo.mono _ _ _ g2.b p1) z1 hi).run X hX K2 g2.j _ (fun v H3 K3 g3 p3 => q v H3 K3 (g1.trans (g2.trans g3)) p3)⟩
  | some l =>
    cases hi with
    | none =>
      refine cE_of (pe_slice cL_sl cE_pe (po_some cE_pe) po_none) ?_
      refine ha.run X hX K j _ (fun x1 H1 K1 g1 p1 => ?_) x
      refine (hl H1 g1.b).run X hX K1 g1.j _ (fun y H2 K2 g2 ⟨i, ei, hi⟩ => ?_) (fun Mx cls d H' K' g w => x Mx cls d H' K' (g1.trans g) w)
      obtain ⟨rfl, z2⟩ := hu H2 (g1.b.trans g2.b)
      exact ⟨i, ei, (ho x1 (some i) none H2 (g1.b.trans g2.b) (mo.mono _ _ _ g2.b p1) hi z2).run X hX K2 g2.j _ (fun v H3 K3 g3 p3 => q v H3 K3 (g1.trans (g2.trans g3)) p3)⟩
    | some u =>
      refine cE_of (pe_slice cL_sl cE_pe (po_some cE_pe) (po_some cE_pe)) ?_
      refine ha.run X hX K j _ (fun x1 H1 K1 g1 p1 => ?_) x
      refine (hl H1 g1.b).run X hX K1 g1.j _ (fun y H2 K2 g2 ⟨i, ei, hi⟩ => ?_) (fun Mx cls d H' K' g w => x Mx cls d H' K' (g1.trans g) w)
      refine ⟨i, ei, ?_⟩
      refine (hu H2 (g1.b.trans g2.b)).run X hX K2 g2.j _ (fun y H3 K3 g3 ⟨i', ei', hi'⟩ => ?_) (fun Mx cls d H' K' g w => x Mx cls d H' K' (g1.trans (g2.trans g)) w)
      exact ⟨i', ei', (ho x1 (some i) (some i') H3 (g1.b.trans (g2.b.trans g3.b)) (mo.mono _ _ _ (g2.b.trans g3.b) p1) hi hi').run X hX K3 g3.j _ (fun v H4 K4 g4 p4 => q v H4 K4 (g1.trans (g2.trans (g3.trans g4))) p4)⟩

/-! arguments -/
theorem ea_nil : EvA c M M [] st H (fun vs _ => vs = []) W := .mk fun X hX K j Q q _ => cA_of pa_nil (q _ H K (.refl j) rfl)
theorem ea_cons {PA2 : List V → Hp → Prop} (ha : Ev c M M1 a st H P1 W) (hb : ∀ H', Same H H' → EvA c M1 M2 es st H' PA2 W)
    (mo : Mono P1) (hs : ∀ env, starEach (a :: es) env = (false, eval a env) :: starEach es env := by intro _; rfl) : EvA c M M2 (a :: es) st H (fun vs H' => ∃ v r, vs = v :: r ∧ P1 v H' ∧ PA2 r H') W := .mk fun X hX K j Q q x => by
  refine cA_of (pa_cons cE_pe cA_pa (hs _)) ?_
  refine ha.run X hX K j _ (fun x1 H1 K1 g1 p1 => ?_) x
  refine (hb H1 g1.b).run X hX K1 g1.j _ (fun y H2 K2 g2 p2 => ?_) (fun Mx cls d H' K' g w => x Mx cls d H' K' (g1.trans g) w)
  exact q _ H2 K2 (g1.trans g2) ⟨x1, y, rfl, mo.mono _ _ _ g2.b p1, p2⟩
end
end Z

namespace Z
open PySem PySem.Spec PyProof.Rows L2
/-- a def's promise where no text is being shown around it -/
structure FnG (P : Program) (w : World) (F : PySem.W.Frag) (mg : Str → Option Value) (base : Heap) (k : Nat) (f : Addr) (fd : FuncData) (ps : List Str) (sp : Sp) : Prop where
  len : ∀ vs K Q E, sp vs K Q E → vs.length = ps.length
  run : ∀ A : Around, Room k A → A.guards = some [] → ∀ outer s K, Env0 P w F mg base A outer s K → ∀ args us vs, Vals vs us → BindsTo s fd args (ps.zip us) → ∀ Q E, sp vs K Q E →
    codeAny (model P w) A (.call (.ref f) args) (CR (L2.CX P w) outer P w K s Q E) s
section
variable {P : Program} {w : World} {F : PySem.W.Frag} {mg : Str → Option Value} {base : Heap} {k : Nat} {f : Addr} {fd : FuncData} {ps N : List Str} {sp : Sp}
theorem bind_kinds {ps : List Str} {us : List Value} {sc : Scope} {n : Nat} (S : FnScope N ps sc) : ∀ y ∈ ps.zip us, sc.names.lookup y.1 = some .local ∨ (sc.names.lookup y.1 = some .cell ∧ ((cellsFrom n sc.names []).lookup y.1).isSome = true) := by
  intro y hy
  obtain ⟨a, b⟩ := y
  have ha := (List.of_mem_zip hy).1
  cases S.par a ha with
  | inl q => exact .inl q
  | inr q => exact .inr ⟨q, PySem.W.cellsFrom_some _ _ _ (.inl q)⟩
/-- from the body -/
theorem fnG_of {x qual : Str} {st : Stmt} (d : Fun F x qual st f fd) (S : FnScope N ps (defScope st)) (len : ∀ vs K Q E, sp vs K Q E → vs.length = ps.length)
    (hb : ∀ (cdv : Value) (A : Around) (outer : List Env) (s : Shared) (K : Hp) (vs : List V) (Q : VK) (E : XK), Room k (A.deeper (envOfC qual (defScope st) s.heap.objs.size f cdv)) → A.guards = some [] → sp vs K Q E →
      ∃ t, PSs (cxOf (L2.CX P w) P w F mg base N qual (defScope st) f cdv A outer s K E) (defBody st) t ∧ t { nx := fun _ K' => Q .non K', rt := Q } (start N vs) K) : FnG P w F mg base (k + 1) f fd ps sp := by
  obtain ⟨oc, od, kV, doc, pm, an, cdv, ct, osl, rfl, lk, hcd⟩ := d.ex
  refine ⟨len, fun A hr hG outer s K e0 args us vs r b Q E h => ?_⟩
  have inn : F.In s.heap := e0.mod.kin.keeps fun a o z => (e0.bs a o z).1
  have lim := e0.mod.nolimit.keeps (h' := s.heap) fun a o z => (e0.bs a o z).1
  refine codeAny_call_function hr.depth (inn _ _ lk) rfl S.co S.gen rfl (PySem.W.codeRec_of inn hcd) (b _ _ _ _ (wpAny_newFunctionEnv_cells S.kind (bind_kinds S) fun env he s1 y => ?_))
  subst he
  obtain ⟨t, ht, q⟩ := hb cdv A outer s K vs Q E (hr.deeper _) hG h
  have I0 := inv_start (CX := L2.CX P w) (E := E) S hr.hd e0 (len _ _ _ _ h) r y
  refine ⟨lim.keeps y.toInCall.keep, codeAny_func (wpAny_mono (ht.run [] s1 (start N vs) K _ I0 q) (fun fl s2 z => ?_) fun _ _ z => z)⟩
  match fl, z with
  | .ret u, ⟨v, _, K2, J2, r2, q2⟩ => exact ⟨v, K2, J2.os, J2.bare, J2.base, J2.hok, r2, q2⟩
  | .next, ⟨_, K2, J2, q2⟩ => exact ⟨.non, K2, J2.os, J2.bare, J2.base, J2.hok, rfl, q2⟩
  | .brk, ⟨_, _, _, q2⟩ => exact q2.elim
  | .cont, ⟨_, _, _, q2⟩ => exact q2.elim
end
/-- the call -/
theorem runG {X : Cx} {W : WX} {k : Nat} {f : Addr} {fd : FuncData} {ps : List Str} {sp : Sp} {pins : List (Addr × Obj)} {st : L2.St} {K : Hp} {s : Shared} {Q : VK} {us : List Value} {vs : List V}
    (F : FnG X.prog X.w X.K X.mg X.base k f fd ps sp) (hr : Room k X.A) (hG : X.A.guards = some []) (tk : Takes X W) (bs : Binds X.K fd ps []) (I : Inv X pins st K s) (r : Vals vs us) (h : sp vs K Q (WE W st)) :
    wpAny (model X.prog X.w) X.A (call (.ref f) us) (EP X pins st Q) X.xe s := by
  have hl : (us ++ ([] : List Value)).length = ps.length := by
    rw [List.append_nil, ← r.length]
    exact F.len _ _ _ _ h
  have b := bs s us I.kIn hl
  rw [List.append_nil] at b
  refine wpAny_call (codeAny_mono (F.run X.A hr hG X.stack s K I.env0 ⟨us, []⟩ us vs r b Q _ h) fun res s2 z => ?_)
  match res, z with
  | .error e, z => exact passAt tk st pins K s e s2 I z
  | .ok (.ret u), z => exact I.after z
  | .ok .next, z => exact z.elim
  | .ok .brk, z => exact z.elim
  | .ok .cont, z => exact z.elim
theorem pe_callG {X : Cx} {W : WX} {k : Nat} {f : Addr} {fd : FuncData} {ps : List Str} {sp : Sp} {x : Str} {p pos : Pos} {e : Expr} {es : List Expr} {t : TA}
    (F : FnG X.prog X.w X.K X.mg X.base k f fd ps sp) (hr : Room k X.A) (hG : X.A.guards = some []) (gx : Gl X x) (hm : X.mg x = some (.ref f)) (kp : PySem.W.keepIn X.K (.ref f) = true) (bs : Binds X.K fd ps []) (tk : Takes X W) (ha : PA X (e :: es) t)
    (hdb : (x == ("__debug__" : Str)) = false) (he : starEach (e :: es) X.env = (false, eval e X.env) :: starEach es X.env) (hpl : (backTo pos (starEach es X.env)).any (·.1) = false) : PE X (.Call (.Name x p) (e :: es) [] pos) (tCallS sp (WE W) t) := by
  refine ⟨fun pins s st K Q I h => wpAny_Call_Name_kw (ld_glob I gx hm ?_ hdb)⟩
  refine PySem.W.callWith_K (h₀ := X.base) I.ok.mod.kin kp (thn (ha.run pos pins s st K _ I h) fun us s2 z => ?_) he hpl
  obtain ⟨vs, K2, I2, r2, q2⟩ := z
  exact ⟨I2.kIn, runG F hr hG tk bs I2 r2 q2⟩
end Z

namespace Z
open PySem L2
open PyProof.Rows (subscriptTail)

abbrev IsB (b : Bool) : Bool → Hp → Prop := fun x _ => x = b
/-- a weaker mode -/
structure Md.Le (M M' : Md) : Prop where
  s : M'.S = M.S
  r : ∀ H K, M.R H K → M'.R H K
theorem Md.Le.refl (M : Md) : Md.Le M M := ⟨rfl, fun _ _ h => h⟩
theorem Md.Le.go {M M' : Md} (l : Md.Le M M') {H K : Hp} (j : J M H K) : Go M M' H K H K :=
  ⟨⟨j.le, fun a s => j.off a (by rw [← l.s]; exact s), l.r _ _ j.r⟩, Same.refl H, fun _ _ _ h => h, fun _ h n => absurd h n, fun _ h => h, l.s⟩

section
variable {c : Ct} {M M1 M2 M3 : Md} {st : St} {H : Hp} {P P1 P2 P3 : VK} {W : XK} {e a b t : Expr} {es rest : List Expr} {pos : Pos} {v : V} {B B1 B2 : Bool → Hp → Prop}
theorem Ev.weak (l : Md.Le M1 M2) (h : Ev c M M1 e st H P W) : Ev c M M2 e st H P W := .mk fun X hX K j Q q x => h.run X hX K j Q (fun v H' K' g p => q v H' K' (g.trans (l.go g.j)) p) x
theorem EvT.weak (l : Md.Le M1 M2) (h : EvT c M M1 e st H B W) : EvT c M M2 e st H B W := .mk fun X hX K j Q q x => h.run X hX K j Q (fun v H' K' g p => q v H' K' (g.trans (l.go g.j)) p) x

/-! tests -/
theorem et_val (h : Ev c M M1 e st H P W) (hp : ∀ v H', Same H H' → P v H' → ∃ p, v = .bl p ∧ B p H')
    (he : ∀ env whole, isTrue e env whole = (do let v ← whole; standAt e.pos; holding [v] (truthy v)) := by intro _ _; rfl) : EvT c M M1 e st H B W := .mk fun X hX K j Q q x => by
  refine cT_of (pt_val cE_pe (he _)) ?_
  refine h.run X hX K j _ (fun v H' K' g p => ?_) x
  obtain ⟨d, e1, p⟩ := hp v H' g.b p
  exact ⟨d, e1, q d H' K' g p⟩
theorem et_valB {p : Bool} (h : Ev c M M1 e st H (Is (.bl p)) W) (he : ∀ env whole, isTrue e env whole = (do let v ← whole; standAt e.pos; holding [v] (truthy v)) := by intro _ _; rfl) : EvT c M M1 e st H (IsB p) W :=
  et_val h (fun v H' _ e => ⟨p, e, rfl⟩) he
/-- by a value's truth -/
theorem et_tru (h : Ev c M M1 e st H P W) (hp : ∀ v H', Same H H' → P v H' → ∃ p, (∀ K, Le H' K → TruV c.K v K p) ∧ B p H')
    (he : ∀ env whole, isTrue e env whole = (do let v ← whole; standAt e.pos; holding [v] (truthy v)) := by intro _ _; rfl) : EvT c M M1 e st H B W := .mk fun X hX K j Q q x => by
  have hX' := hX
  cases hX'
  refine cT_of (pt_truth cE_pe (he _)) ?_
  refine h.run X hX K j _ (fun v H' K' g p => ?_) x
  obtain ⟨d, e1, p⟩ := hp v H' g.b p
  exact ⟨d, e1 K' g.j.le, q d H' K' g p⟩
theorem et_cmp {op : CmpOp} (ha : Ev c M M1 a st H P1 W) (hb : ∀ H', Same H H' → Ev c M1 M2 b st H' P2 W) (mo : Mono P1) (ho : ∀ x y H', Same H H' → P1 x H' → P2 y H' → Op2 c M2 (compareOp op) x y H' fun v H' => ∃ p, v = .bl p ∧ B p H')
    (hm : behindInMarks op b = false) : EvT c M M2 (.Compare a [op] [b] pos) st H B W := .mk fun X hX K j Q q x => by
  refine cT_of (pt_cmpR cO_or cE_pe cE_pe hm) ?_
  refine ha.run X hX K j _ (fun x1 H1 K1 g1 p1 => ?_) x
  refine (hb H1 g1.b).run X hX K1 g1.j _ (fun y H2 K2 g2 p2 => ?_) (fun Mx cls d H' K' g w => x Mx cls d H' K' (g1.trans g) w)
  refine (ho x1 y H2 (g1.b.trans g2.b) (mo.mono _ _ _ g2.b p1) p2).run X hX K2 g2.j _ (fun v H3 K3 g3 p3 => ?_)
  obtain ⟨d, e1, p⟩ := p3
  exact ⟨d, e1, q d H3 K3 (g1.trans (g2.trans g3)) p⟩
theorem et_cmpB {op : CmpOp} {p : Bool} (ha : Ev c M M1 a st H P1 W) (hb : ∀ H', Same H H' → Ev c M1 M2 b st H' P2 W) (mo : Mono P1) (ho : ∀ x y H', Same H H' → P1 x H' → P2 y H' → Op2 c M2 (compareOp op) x y H' (Is (.bl p)))
    (hm : behindInMarks op b = false) : EvT c M M2 (.Compare a [op] [b] pos) st H (IsB p) W := et_cmp ha hb mo (fun x y H' s h1 h2 => (ho x y H' s h1 h2).imp fun v H' _ e => ⟨p, e, rfl⟩) hm
theorem et_not (h : EvT c M M1 a st H B W) : EvT c M M1 (.UnaryOp .Not a pos) st H (fun p H' => ∃ r, p = (!r) ∧ B r H') W := .mk fun X hX K j Q q x => by
  refine cT_of (pt_not cT_pt) ?_
  exact h.run X hX K j _ (fun v H' K' g p => q (!v) H' K' g ⟨v, rfl, p⟩) x
theorem et_notB {p : Bool} (h : EvT c M M1 a st H (IsB p) W) : EvT c M M1 (.UnaryOp .Not a pos) st H (IsB (!p)) W := (et_not h).imp fun v H' _ ⟨r, e, e2⟩ => by rw [e, e2]
theorem et_W (h : EvW c M M1 e st H B W) : EvT c M M1 e st H B W := .mk fun X hX K j Q q x => cT_of cW_pw.pt (h.run X hX K j Q q x)
theorem ew_and1 (h : EvT c M M1 a st H B W) : EvW c M M1 (.BoolOp .And [a] pos) st H B W := .mk fun X hX K j Q q x => cW_of (pw_and1 cT_pt) (h.run X hX K j Q q x)
theorem ew_or1 (h : EvT c M M1 a st H B W) : EvW c M M1 (.BoolOp .Or [a] pos) st H B W := .mk fun X hX K j Q q x => cW_of (pw_or1 cT_pt) (h.run X hX K j Q q x)
theorem ew_and (l : Md.Le M1 M2) (ha : EvT c M M1 a st H B1 W) (hb : ∀ H', Same H H' → B1 true H' → EvW c M1 M2 (.BoolOp .And (b :: rest) pos) st H' B W) (hf : ∀ H', Same H H' → B1 false H' → B false H') :
    EvW c M M2 (.BoolOp .And (a :: b :: rest) pos) st H B W := .mk fun X hX K j Q q x => by
  refine cW_of (pw_and cT_pt cW_pw) ?_
  refine ha.run X hX K j _ (fun p H1 K1 g1 p1 => ?_) x
  cases p with
  | true => exact iteT ((hb H1 g1.b p1).run X hX K1 g1.j _ (fun y H2 K2 g2 p2 => q y H2 K2 (g1.trans g2) p2) (fun Mx cls d H' K' g w => x Mx cls d H' K' (g1.trans g) w))
  | false => exact iteF (q false H1 K1 (g1.trans (l.go g1.j)) (hf H1 g1.b p1))
theorem ew_or (l : Md.Le M1 M2) (ha : EvT c M M1 a st H B1 W) (hb : ∀ H', Same H H' → B1 false H' → EvW c M1 M2 (.BoolOp .Or (b :: rest) pos) st H' B W) (hf : ∀ H', Same H H' → B1 true H' → B true H') :
    EvW c M M2 (.BoolOp .Or (a :: b :: rest) pos) st H B W := .mk fun X hX K j Q q x => by
  refine cW_of (pw_or cT_pt cW_pw) ?_
  refine ha.run X hX K j _ (fun p H1 K1 g1 p1 => ?_) x
  cases p with
  | false => exact iteF ((hb H1 g1.b p1).run X hX K1 g1.j _ (fun y H2 K2 g2 p2 => q y H2 K2 (g1.trans g2) p2) (fun Mx cls d H' K' g w => x Mx cls d H' K' (g1.trans g) w))
  | true => exact iteT (q true H1 K1 (g1.trans (l.go g1.j)) (hf H1 g1.b p1))
theorem ew_andB {p r : Bool} (ha : EvT c M M1 a st H (IsB p) W) (hb : ∀ H', Same H H' → p = true → EvW c M1 M1 (.BoolOp .And (b :: rest) pos) st H' (IsB r) W) :
    EvW c M M1 (.BoolOp .And (a :: b :: rest) pos) st H (IsB (p && r)) W := ew_and (.refl _) ha (fun H' s e => by
  have h := hb H' s e.symm
  rw [show p = true from e.symm]
  exact h) (fun H' s e => by rw [← show false = p from e] <;> rfl)
theorem ew_orB {p r : Bool} (ha : EvT c M M1 a st H (IsB p) W) (hb : ∀ H', Same H H' → p = false → EvW c M1 M1 (.BoolOp .Or (b :: rest) pos) st H' (IsB r) W) :
    EvW c M M1 (.BoolOp .Or (a :: b :: rest) pos) st H (IsB (p || r)) W := ew_or (.refl _) ha (fun H' s e => by
  have h := hb H' s e.symm
  rw [show p = false from e.symm]
  exact h) (fun H' s e => by rw [← show true = p from e] <;> rfl)

/-! and, or as values -/
theorem ev_one {op : BoolOp} (h : Ev c M M1 a st H P W) : Ev c M M1 (.BoolOp op [a] pos) st H P W := .mk fun X hX K j Q q x => cE_of (pe_one cE_pe) (h.run X hX K j Q q x)
theorem ev_and (l : Md.Le M1 M2) (ha : Ev c M M1 a st H P1 W) (hb : ∀ v H', Same H H' → P1 v H' → ∃ p, v = .bl p ∧ (p = true → Ev c M1 M2 (.BoolOp .And (b :: rest) pos) st H' P W) ∧ (p = false → P (.bl false) H')) :
    Ev c M M2 (.BoolOp .And (a :: b :: rest) pos) st H P W := .mk fun X hX K j Q q x => by
  refine cE_of (pe_and cE_pe cE_pe) ?_
  refine ha.run X hX K j _ (fun v H1 K1 g1 p1 => ?_) x
  obtain ⟨p, e, h1, h2⟩ := hb v H1 g1.b p1
  refine ⟨p, e, ?_⟩
  cases p with
  | true => exact iteT ((h1 rfl).run X hX K1 g1.j _ (fun y H2 K2 g2 p2 => q y H2 K2 (g1.trans g2) p2) (fun Mx cls d H' K' g w => x Mx cls d H' K' (g1.trans g) w))
  | false => exact iteF (q _ H1 K1 (g1.trans (l.go g1.j)) (h2 rfl))
theorem ev_or (l : Md.Le M1 M2) (ha : Ev c M M1 a st H P1 W) (hb : ∀ v H', Same H H' → P1 v H' → ∃ p, v = .bl p ∧ (p = false → Ev c M1 M2 (.BoolOp .Or (b :: rest) pos) st H' P W) ∧ (p = true → P (.bl true) H')) :
    Ev c M M2 (.BoolOp .Or (a :: b :: rest) pos) st H P W := .mk fun X hX K j Q q x => by
  refine cE_of (pe_or cE_pe cE_pe) ?_
  refine ha.run X hX K j _ (fun v H1 K1 g1 p1 => ?_) x
  obtain ⟨p, e, h1, h2⟩ := hb v H1 g1.b p1
  refine ⟨p, e, ?_⟩
  cases p with
  | false => exact iteF ((h1 rfl).run X hX K1 g1.j _ (fun y H2 K2 g2 p2 => q y H2 K2 (g1.trans g2) p2) (fun Mx cls d H' K' g w => x Mx cls d H' K' (g1.trans g) w))
  | true => exact iteT (q _ H1 K1 (g1.trans (l.go g1.j)) (h2 rfl))
theorem ev_andB {p r : Bool} (ha : Ev c M M1 a st H (Is (.bl p)) W) (hb : ∀ H', Same H H' → p = true → Ev c M1 M1 (.BoolOp .And (b :: rest) pos) st H' (Is (.bl r)) W) :
    Ev c M M1 (.BoolOp .And (a :: b :: rest) pos) st H (Is (.bl (p && r))) W := ev_and (.refl _) ha fun v H' s e => ⟨p, e, fun h => by
      have q := hb H' s h
      rw [h]
      exact q, fun h => by rw [h] <;> rfl⟩
theorem ev_orB {p r : Bool} (ha : Ev c M M1 a st H (Is (.bl p)) W) (hb : ∀ H', Same H H' → p = false → Ev c M1 M1 (.BoolOp .Or (b :: rest) pos) st H' (Is (.bl r)) W) :
    Ev c M M1 (.BoolOp .Or (a :: b :: rest) pos) st H (Is (.bl (p || r))) W := ev_or (.refl _) ha fun v H' s e => ⟨p, e, fun h => by
      have q := hb H' s h
      rw [h]
      exact q, fun h => by rw [h] <;> rfl⟩
theorem ev_notB {p : Bool} (h : Ev c M M1 a st H (Is (.bl p)) W) : Ev c M M1 (.UnaryOp .Not a pos) st H (Is (.bl (!p))) W := .mk fun X hX K j Q q x => by
  refine cE_of (pe_not cE_pe) ?_
  exact h.run X hX K j _ (fun v H' K' g e => ⟨p, e, q _ H' K' g rfl⟩) x
/-- a if t else b -/
theorem ev_if (ht : EvT c M M1 t st H B W) (h1 : ∀ H', Same H H' → B true H' → Ev c M1 M2 a st H' P W) (h2 : ∀ H', Same H H' → B false H' → Ev c M1 M2 b st H' P W) : Ev c M M2 (.IfExp t a b pos) st H P W := .mk fun X hX K j Q q x => by
  refine cE_of (pe_ifExp cT_pt cE_pe cE_pe) ?_
  refine ht.run X hX K j _ (fun p H1 K1 g1 p1 => ?_) x
  cases p with
  | true => exact iteT ((h1 H1 g1.b p1).run X hX K1 g1.j _ (fun y H2 K2 g2 p2 => q y H2 K2 (g1.trans g2) p2) (fun Mx cls d H' K' g w => x Mx cls d H' K' (g1.trans g) w))
  | false => exact iteF ((h2 H1 g1.b p1).run X hX K1 g1.j _ (fun y H2 K2 g2 p2 => q y H2 K2 (g1.trans g2) p2) (fun Mx cls d H' K' g w => x Mx cls d H' K' (g1.trans g) w))
/-- a < b < d -/
theorem ev_chain {d : Expr} {o o' : CmpOp} {p : Bool} (ha : Ev c M M a st H P1 W) (hb : ∀ H', Same H H' → Ev c M M b st H' P2 W) (mo : Mono P1) (mo2 : Mono P2) (hd : p = true → ∀ H', Same H H' → Ev c M M d st H' P3 W)
    (ho : ∀ x y H', Same H H' → P1 x H' → P2 y H' → Op2 c M (compareOp o) x y H' (Is (.bl p))) (hf : p = false → ∀ H', P (.bl false) H')
    (ho' : p = true → ∀ x y H', Same H H' → P2 x H' → P3 y H' → Op2 c M (compareOp o') x y H' P) (hm : lastMarks [o, o'] [b, d] = false := by with_unfolding_all rfl) : Ev c M M (.Compare a [o, o'] [b, d] pos) st H P W := .mk fun X hX K j Q q x => by
  refine cE_of (pe_chain cO_or cO_or cE_pe cE_pe cE_pe hm) ?_
  refine ha.run X hX K j _ (fun x1 H1 K1 g1 p1 => ?_) x
  refine (hb H1 g1.b).run X hX K1 g1.j _ (fun y H2 K2 g2 p2 => ?_) (fun Mx cls d H' K' g w => x Mx cls d H' K' (g1.trans g) w)
  refine (ho x1 y H2 (g1.b.trans g2.b) (mo.mono _ _ _ g2.b p1) p2).run X hX K2 g2.j _ (fun v H3 K3 g3 p3 => ⟨p, p3, ?_⟩)
  have g := g1.trans (g2.trans g3)
  cases hp : p with
  | true =>
    refine iteT ?_
    refine (hd hp H3 g.b).run X hX K3 g.j _ (fun z H4 K4 g4 p4 => ?_) (fun Mx cls d H' K' g' w => x Mx cls d H' K' (g.trans g') w)
    exact (ho' hp y z H4 (g.b.trans g4.b) (mo2.mono _ _ _ (g3.b.trans g4.b) p2) p4).run X hX K4 g4.j _ (fun v H5 K5 g5 p5 => q v H5 K5 (g.trans (g4.trans g5)) p5)
  | false => exact iteF (q _ H3 K3 g (hf hp H3))
theorem et_chain {d : Expr} {o o' : CmpOp} {p : Bool} (ha : Ev c M M a st H P1 W) (hb : ∀ H', Same H H' → Ev c M M b st H' P2 W) (mo : Mono P1) (mo2 : Mono P2) (hd : p = true → ∀ H', Same H H' → Ev c M M d st H' P3 W)
    (ho : ∀ x y H', Same H H' → P1 x H' → P2 y H' → Op2 c M (compareOp o) x y H' (Is (.bl p))) (hf : p = false → ∀ H', B false H')
    (ho' : p = true → ∀ x y H', Same H H' → P2 x H' → P3 y H' → Op2 c M (compareOp o') x y H' fun v H' => ∃ p, v = .bl p ∧ B p H') (hm : lastMarks [o, o'] [b, d] = false := by with_unfolding_all rfl) : EvT c M M (.Compare a [o, o'] [b, d] pos) st H B W := .mk fun X hX K j Q q x => by
  refine cT_of (pt_chain cO_or cO_or cE_pe cE_pe cE_pe hm) ?_
  refine ha.run X hX K j _ (fun x1 H1 K1 g1 p1 => ?_) x
  refine (hb H1 g1.b).run X hX K1 g1.j _ (fun y H2 K2 g2 p2 => ?_) (fun Mx cls d H' K' g w => x Mx cls d H' K' (g1.trans g) w)
  refine (ho x1 y H2 (g1.b.trans g2.b) (mo.mono _ _ _ g2.b p1) p2).run X hX K2 g2.j _ (fun v H3 K3 g3 p3 => ⟨p, p3, ?_⟩)
  have g := g1.trans (g2.trans g3)
  cases hp : p with
  | true =>
    refine iteT ?_
    refine (hd hp H3 g.b).run X hX K3 g.j _ (fun z H4 K4 g4 p4 => ?_) (fun Mx cls d H' K' g' w => x Mx cls d H' K' (g.trans g') w)
    refine (ho' hp y z H4 (g.b.trans g4.b) (mo2.mono _ _ _ (g3.b.trans g4.b) p2) p4).run X hX K4 g4.j _ (fun v H5 K5 g5 p5 => ?_)
    obtain ⟨d, e1, p⟩ := p5
    exact ⟨d, e1, q d H5 K5 (g.trans (g4.trans g5)) p⟩
  | false => exact iteF ⟨false, rfl, q _ H3 K3 g (hf hp H3)⟩

/-! lists, tuples written -/
theorem ev_lst {A : List V → Hp → Prop} (h : EvA c M M1 es st H A W) (hl : ∀ vs H', Same H H' → A vs H' → vs.length ≤ sizeLine ∧ ∀ p, H' p = none → P (.ref p) (upd H' p (.lst vs))) : Ev c M M1 (.List es pos) st H P W := .mk fun X hX K j Q q x => by
  refine cE_of (pe_lst cA_pa) ?_
  refine h.run X hX K j _ (fun vs H1 K1 g1 p1 => ?_) x
  obtain ⟨h1, h2⟩ := hl vs H1 g1.b p1
  exact ⟨h1, fun p hp => q _ _ _ (g1.trans (Go.new g1.j hp)) (h2 p (g1.j.fresh hp))⟩
theorem ev_tup {A : List V → Hp → Prop} {k : Nat} (h : EvA c M M1 es st H A W) (hl : ∀ vs H', Same H H' → A vs H' → vs.length ≤ sizeLine ∧ ∀ p, H' p = none → P (.ref p) (upd H' p (.tup vs))) : Ev c M M1 (.Tuple es k pos) st H P W := .mk fun X hX K j Q q x => by
  refine cE_of (pe_tup cA_pa) ?_
  refine h.run X hX K j _ (fun vs H1 K1 g1 p1 => ?_) x
  obtain ⟨h1, h2⟩ := hl vs H1 g1.b p1
  exact ⟨h1, fun p hp => q _ _ _ (g1.trans (Go.new g1.j hp)) (h2 p (g1.j.fresh hp))⟩

/-! calls -/
theorem pass_any {X : Cx} {W : WX} (tk : Takes X W) (st : St) : PassesAt (L2.CX X.prog X.w) X st (WE W st) := passAt tk st
/-- a promise -/
abbrev Pre := Md → Md → List V → Hp → VK → XK → Prop
def spZ (pre : Pre) : Sp := fun vs K Q E => ∃ M M' H P W, J M H K ∧ pre M M' vs H P W ∧ (∀ v H' K', Go M M' H K H' K' → P v H' → Q v K') ∧ (∀ Mx cls d H' K', Go M Mx H K H' K' → W cls d H' → E cls d K')
theorem ev_call {x : Str} {p : Pos} {f : Addr} {fd : FuncData} {ps : List Str} {k : Nat} {pre : Pre} {A : List V → Hp → Prop} (F : FnG c.P c.w c.K c.mg c.base k f fd ps (spZ pre)) (hk : k ≤ c.k)
    (hg : GlS c x) (hm : c.mg x = some (.ref f)) (kp : PySem.W.keepIn c.K (.ref f) = true) (hb : Binds c.K fd ps []) (ha : EvA c M M1 (a :: es) st H A W)
    (hp : ∀ vs H', Same H H' → A vs H' → ∃ P' W', pre M1 M2 vs H' P' W' ∧ (∀ v H'', Same H' H'' → P' v H'' → P v H'') ∧ (∀ cls d H'', Same H' H'' → W' cls d H'' → W cls d H'')) (hdb : (x == ("__debug__" : Str)) = false := by decide)
    (he : ∀ env, starEach (a :: es) env = (false, eval a env) :: starEach es env := by intro _; rfl) (hpl : ∀ pos env, (backTo pos (starEach es env)).any (·.1) = false := by intro _ _; rfl) :
    Ev c M M2 (.Call (.Name x p) (a :: es) [] pos) st H P W := .mk fun X hX K j Q q xx => by
  have hX' := hX
  cases hX' with
  | mk _ k' Wx fa hr hc hp' ht hf hN hU =>
    refine cE_of (pe_callG (W := Wx) F (hr.mono hk) hU hg hm kp hb ht cA_pa hdb (he _) (hpl _ _)) ?_
    refine ha.run X hX K j _ (fun vs H1 K1 g1 p1 => ?_) xx
    obtain ⟨P', W', h1, h2, h3⟩ := hp vs H1 g1.b p1
    exact ⟨M1, M2, H1, P', W', g1.j, h1, fun v H2 K2 g2 p2 => q v H2 K2 (g1.trans g2) (h2 v H2 g2.b p2), fun Mx cls d H2 K2 g2 w => xx Mx cls d H2 K2 (g1.trans g2) (h3 cls d H2 g2.b w)⟩
/-- a builtin function, a builtin type -/
theorem ev_callB {x : Str} {p : Pos} {id : String} {A : List V → Hp → Prop} (hg : GlS c x) (hm : c.mg x = none) (hv : bootBuiltins x = some (.builtin id)) (ha : EvA c M M1 (a :: es) st H A W)
    (ho : ∀ vs H', Same H H' → A vs H' → OpF c M1 (.builtin id) vs H' P) (hn : x ≠ "__name__" := by decide) (hdb : (x == ("__debug__" : Str)) = false := by decide)
    (he : ∀ env, starEach (a :: es) env = (false, eval a env) :: starEach es env := by intro _; rfl) (hpl : ∀ pos env, (backTo pos (starEach es env)).any (·.1) = false := by intro _ _; rfl) :
    Ev c M M1 (.Call (.Name x p) (a :: es) [] pos) st H P W := .mk fun X hX K j Q q xx => by
  have hX' := hX
  cases hX' with
  | mk _ k' Wx fa hr hc hp' ht hf hN hU =>
    refine cE_of (pe_callB cF_cr hg hm hv cA_pa hn hdb (he _) (hpl _ _)) ?_
    refine ha.run X hX K j _ (fun vs H1 K1 g1 p1 => ?_) xx
    exact (ho vs H1 g1.b p1).run X hX K1 g1.j _ (fun v H2 K2 g2 p2 => q v H2 K2 (g1.trans g2) p2)
theorem ev_callTy {x : Str} {p : Pos} {T : String} {A : List V → Hp → Prop} (hg : GlS c x) (hm : c.mg x = none) (hv : bootBuiltins x = some (.type T)) (ha : EvA c M M1 (a :: es) st H A W)
    (ho : ∀ vs H', Same H H' → A vs H' → OpF c M1 (.type T) vs H' P) (hn : x ≠ "__name__" := by decide) (hdb : (x == ("__debug__" : Str)) = false := by decide)
    (he : ∀ env, starEach (a :: es) env = (false, eval a env) :: starEach es env := by intro _; rfl) (hpl : ∀ pos env, (backTo pos (starEach es env)).any (·.1) = false := by intro _ _; rfl) :
    Ev c M M1 (.Call (.Name x p) (a :: es) [] pos) st H P W := .mk fun X hX K j Q q xx => by
  have hX' := hX
  cases hX' with
  | mk _ k' Wx fa hr hc hp' ht hf hN hU =>
    refine cE_of (pe_callTy cF_cr hg hm hv cA_pa hn hdb (he _) (hpl _ _)) ?_
    refine ha.run X hX K j _ (fun vs H1 K1 g1 p1 => ?_) xx
    exact (ho vs H1 g1.b p1).run X hX K1 g1.j _ (fun v H2 K2 g2 p2 => q v H2 K2 (g1.trans g2) p2)
/-- a builtin type's method -/
theorem ev_meth {o : Expr} {name : Str} {apos : Pos} {T id : String} {A : List V → Hp → Prop} (pa : PlainAttrs T) (slot : Slot T name id) (hty : typeOf (.builtin id) = pure (.type "method_descriptor"))
    (ho : Ev c M M1 o st H P1 W) (ty : ∀ x H' K', Same H H' → Le H' K' → P1 x H' → tyV c.K T x K') (ha : ∀ H', Same H H' → EvA c M1 M2 (a :: es) st H' A W)
    (mo : Mono P1) (hm : ∀ x vs H', Same H H' → P1 x H' → A vs H' → OpM c M2 id x vs H' P)
    (hbase : ∀ env, attributeBase o name env (eval o env) = eval o env := by intro _; rfl)
    (hfew : ∀ env, ((backTo pos (starEach (a :: es) env)).all (fun x => !x.1) && (backToKw pos (keywordEach [] env)).all (fun x => x.1.isSome)
      && decide ((a :: es).length + ([] : List Keyword).length + (if ([] : List Keyword).isEmpty then 0 else 1) < 30)) = true := by intro _; rfl)
    (hline : (apos.endLine == pos.line) = true := by rfl) (he : ∀ env, starEach (a :: es) env = (false, eval a env) :: starEach es env := by intro _; rfl) (hpl : ∀ pos env, (backTo pos (starEach es env)).any (·.1) = false := by intro _ _; rfl) :
    Ev c M M2 (.Call (.Attribute o name apos) (a :: es) [] pos) st H P W := .mk fun X hX K j Q q xx => by
  have hX' := hX
  cases hX' with
  | mk _ k' Wx fa hr hc hp' ht hf hN hU =>
    refine cE_of (pe_bm pa slot hty cM_mt cE_pe cA_pa (hbase _) (hfew _) hline (he _) (hpl _ _)) ?_
    refine ho.run X hX K j _ (fun x1 H1 K1 g1 p1 => ⟨ty x1 H1 K1 g1.b g1.j.le p1, ?_⟩) xx
    refine (ha H1 g1.b).run X hX K1 g1.j _ (fun vs H2 K2 g2 p2 => ?_) (fun Mx cls d H' K' g w => xx Mx cls d H' K' (g1.trans g) w)
    exact (hm x1 vs H2 (g1.b.trans g2.b) (mo.mono _ _ _ g2.b p1) p2).run X hX K2 g2.j _ (fun v H3 K3 g3 p3 => q v H3 K3 (g1.trans (g2.trans g3)) p3)
theorem ev_meth0 {o : Expr} {name : Str} {apos : Pos} {T id : String} (pa : PlainAttrs T) (slot : Slot T name id) (hty : typeOf (.builtin id) = pure (.type "method_descriptor"))
    (ho : Ev c M M1 o st H P1 W) (ty : ∀ x H' K', Same H H' → Le H' K' → P1 x H' → tyV c.K T x K') (hm : ∀ x H', Same H H' → P1 x H' → OpM c M1 id x [] H' P)
    (hbase : ∀ env, attributeBase o name env (eval o env) = eval o env := by intro _; rfl) (hline : (apos.endLine == pos.line) = true := by rfl) :
    Ev c M M1 (.Call (.Attribute o name apos) [] [] pos) st H P W := .mk fun X hX K j Q q xx => by
  have hX' := hX
  cases hX' with
  | mk _ k' Wx fa hr hc hp' ht hf hN hU =>
    refine cE_of (pe_bm0 pa slot hty cM_mt cE_pe (hbase _) hline) ?_
    refine ho.run X hX K j _ (fun x1 H1 K1 g1 p1 => ⟨ty x1 H1 K1 g1.b g1.j.le p1, ?_⟩) xx
    exact (hm x1 H1 g1.b p1).run X hX K1 g1.j _ (fun v H3 K3 g3 p3 => q v H3 K3 (g1.trans g3) p3)
end

/-! ### what is walked -/
def cP (X : Cx) (tg iter : Expr) : TI := fun st K R => ∀ pins s, Inv X pins st K s → wpAny (model X.prog X.w) X.A (eval iter X.env) (fun v s1 => wpAny (model X.prog X.w) X.A (pyIter v) (PIE X pins st tg R) X.xe s1) X.xe s
theorem cP_pi {X : Cx} {tg iter : Expr} : PI X tg iter (cP X tg iter) := ⟨fun pins s _ _ _ I h => h pins s I⟩
theorem cP_of {X : Cx} {tg iter : Expr} {t : TI} {st : St} {K : Hp} {R : It → Hp → Prop} (h : PI X tg iter t) (q : t st K R) : cP X tg iter st K R := fun pins s I => h.run pins s st K R I q
/-- iter is walked: n items, the i-th is a v of which Y i is true -/
structure EvI (c : Ct) (M M' : Md) (tg iter : Expr) (st : St) (H : Hp) (n : Nat) (Y : Nat → VK) (W : XK) : Prop where
  run : ∀ X, Con c X → ∀ K, J M H K → ∀ R : It → Hp → Prop, (∀ Jt G Yh H1 K1, Go M M' H K H1 K1 → Walk Jt n G Yh → (∀ H' K', Same H1 H' → Le H' K' → G K') → (∀ i x H' K' K'', i < n → Same H1 H' → Yh i K' x K'' → K'' = K' ∧ Y i x H') → R Jt K1) →
    (∀ Mx cls d H' K', Go M Mx H K H' K' → W cls d H' → c.Wx cls d st K') → cP X tg iter st K R
/-- the items are new pairs -/
structure EvI2 (c : Ct) (M M' : Md) (tg iter : Expr) (st : St) (H : Hp) (n : Nat) (Y Z : Nat → VK) (W : XK) : Prop where
  run : ∀ X, Con c X → ∀ K, J M H K → ∀ R : It → Hp → Prop, (∀ Jt G Yh H1 K1, Go M M' H K H1 K1 → Walk Jt n G Yh → (∀ H' K', Same H1 H' → Le H' K' → G K') →
    (∀ i x H' K' K'', i < n → Same H1 H' → Yh i K' x K'' → ∃ T y z, x = .ref T ∧ K' T = none ∧ K'' = upd K' T (.tup [y, z]) ∧ Y i y H' ∧ Z i z H') → R Jt K1) →
    (∀ Mx cls d H' K', Go M Mx H K H' K' → W cls d H' → c.Wx cls d st K') → cP X tg iter st K R
section
variable {c : Ct} {M M1 M2 M3 : Md} {st : St} {H : Hp} {P P1 P2 P3 : VK} {W : XK} {tg e a b t : Expr} {es rest : List Expr} {pos : Pos} {v : V}
theorem ei_list {xs : List V} (h : Ev c M M1 e st H (IsL xs) W) : EvI c M M1 tg e st H xs.length (fun i v _ => xs[i]? = some v) W := .mk fun X hX K j R r x => by
  have hX' := hX
  cases hX'
  refine cP_of (pi_list cE_pe) ?_
  refine h.run X hX K j _ (fun v H1 K1 g1 ⟨p, e1, hp⟩ => ⟨p, e1, ⟨xs, SqL.of (g1.j.le.lst hp)⟩, ?_⟩) x
  exact r _ _ _ H1 K1 g1 walk_list (fun H' K' s l => SqL.of (l.lst (s _ _ hp))) (fun i x H' K' K'' _ _ y => y)
theorem ei_tup {xs : List V} (h : Ev c M M1 e st H (IsT xs) W) : EvI c M M1 tg e st H xs.length (fun i v _ => xs[i]? = some v) W := .mk fun X hX K j R r x => by
  have hX' := hX
  cases hX'
  refine cP_of (pi_tup cE_pe) ?_
  refine h.run X hX K j _ (fun v H1 K1 g1 ⟨p, e1, hp⟩ => ⟨p, e1, ⟨xs, SqT.of (g1.j.le.tup hp)⟩, ?_⟩) x
  exact r _ _ _ H1 K1 g1 walk_tup (fun H' K' s l => SqT.of (l.tup (s _ _ hp))) (fun i x H' K' K'' _ _ y => y)
/-- the script -/
theorem ei_seq {xs : List V} {p : Addr} (h : Ev c M M1 e st H (Is (.ref p)) W) (hp : SqL c.K H p xs) : EvI c M M1 tg e st H xs.length (fun i v _ => xs[i]? = some v) W := .mk fun X hX K j R r x => by
  have hX' := hX
  cases hX'
  refine cP_of (pi_list cE_pe) ?_
  refine h.run X hX K j _ (fun v H1 K1 g1 e1 => ⟨p, e1, ⟨xs, le_sql g1.j.le (same_sql g1.b hp)⟩, ?_⟩) x
  exact r _ _ _ H1 K1 g1 walk_list (fun H' K' s l => le_sql l (same_sql (g1.b.trans s) hp)) (fun i x H' K' K'' _ _ y => y)
/-- a list whose items are told by a predicate -/
theorem ei_listP {n : Nat} {Y : Nat → VK} (h : Ev c M M1 e st H (fun v H' => ∃ xs, IsL xs v H' ∧ xs.length = n ∧ ∀ H'', Same H' H'' → ∀ i v, xs[i]? = some v → Y i v H'') W) : EvI c M M1 tg e st H n Y W := .mk fun X hX K j R r x => by
  have hX' := hX
  cases hX'
  refine cP_of (pi_list cE_pe) ?_
  refine h.run X hX K j _ (fun v H1 K1 g1 ⟨xs, ⟨p, e1, hp⟩, hn, hy⟩ => ⟨p, e1, ⟨xs, SqL.of (g1.j.le.lst hp)⟩, ?_⟩) x
  subst hn
  exact r _ _ _ H1 K1 g1 walk_list (fun H' K' s l => SqL.of (l.lst (s _ _ hp))) (fun i x H' K' K'' _ s y => ⟨y.1, hy H' s i x y.2⟩)
theorem ei_str {z : Str} (h : Ev c M M1 e st H (Is (.str z)) W) : EvI c M M1 tg e st H z.cps.size (fun i v _ => ∃ k, z.cps[i]? = some k ∧ v = .str ⟨#[k]⟩) W := .mk fun X hX K j R r x => by
  refine cP_of (pi_str cE_pe) ?_
  refine h.run X hX K j _ (fun v H1 K1 g1 e1 => ⟨z, e1, ?_⟩) x
  exact r _ _ _ H1 K1 g1 walk_str (fun H' K' s l => trivial) (fun i x H' K' K'' _ _ y => y)
theorem ei_range1 {p : Pos} {n : Int} (hg : GlS c "range") (hm : c.mg "range" = none) (h : Ev c M M1 a st H (Is (.int n)) W) (hn : -(2 ^ 62) ≤ n ∧ n < 2 ^ 62)
    (hs : ∀ env, starEach [a] env = [(false, eval a env)] := by intro _; rfl) : EvI c M M1 tg (.Call (.Name "range" p) [a] [] pos) st H n.toNat (fun i v _ => v = .int (i : Int)) W := .mk fun X hX K j R r x => by
  have hX' := hX
  cases hX'
  refine cP_of (pi_range1 hg hm (pa_cons cE_pe pa_nil (hs _)) (hs _)) ?_
  refine h.run X hX K j _ (fun v H1 K1 g1 e1 => ⟨n, by rw [e1], hn.1, hn.2, ?_⟩) x
  exact r _ _ _ H1 K1 g1 walk_range (fun H' K' s l => trivial) (fun i x H' K' K'' _ _ y => ⟨y.1, by rw [y.2]; simp⟩)
theorem ei_range2 {p : Pos} {m n : Int} (hg : GlS c "range") (hm : c.mg "range" = none) (ha : Ev c M M1 a st H (Is (.int m)) W) (hb : ∀ H', Same H H' → Ev c M1 M2 b st H' (Is (.int n)) W) (hn : -(2 ^ 62) ≤ m ∧ m < 2 ^ 62 ∧ -(2 ^ 62) ≤ n ∧ n < 2 ^ 62)
    (hs : ∀ env, starEach [a, b] env = [(false, eval a env), (false, eval b env)] := by intro _; rfl) (hs2 : ∀ env, starEach [b] env = [(false, eval b env)] := by intro _; rfl) :
    EvI c M M2 tg (.Call (.Name "range" p) [a, b] [] pos) st H (n - m).toNat (fun i v _ => v = .int (m + (i : Int))) W := .mk fun X hX K j R r x => by
  have hX' := hX
  cases hX'
  refine cP_of (pi_range2 hg hm (pa_cons cE_pe (pa_cons cE_pe pa_nil (hs2 _)) (by rw [hs, hs2])) (hs _) (hs2 _)) ?_
  refine ha.run X hX K j _ (fun v H1 K1 g1 e1 => ?_) x
  refine (hb H1 g1.b).run X hX K1 g1.j _ (fun v2 H2 K2 g2 e2 => ⟨m, n, by rw [e1, e2], hn, ?_⟩) (fun Mx cls d H' K' g w => x Mx cls d H' K' (g1.trans g) w)
  exact r _ _ _ H2 K2 (g1.trans g2) walk_range (fun H' K' s l => trivial) (fun i x H' K' K'' _ _ y => y)
theorem ei_enum {elts : List Expr} {kk : Nat} {tpos p : Pos} {xs : List V} (hg : GlS c "enumerate") (hm : c.mg "enumerate" = none) (h : Ev c M M1 a st H (IsL xs) W)
    (hs : ∀ env, starEach [a] env = [(false, eval a env)] := by intro _; rfl) : EvI2 c M M1 (.Tuple elts kk tpos) (.Call (.Name "enumerate" p) [a] [] pos) st H xs.length (fun i v _ => v = .int (i : Int)) (fun i v _ => xs[i]? = some v) W := .mk fun X hX K j R r x => by
  have hX' := hX
  cases hX'
  refine cP_of (pi_enum hg hm (pa_cons cE_pe pa_nil (hs _)) (hs _)) ?_
  refine h.run X hX K j _ (fun v H1 K1 g1 ⟨p, e1, hp⟩ => ⟨p, xs, by rw [e1], SqL.of (g1.j.le.lst hp), ?_⟩) x
  refine r _ _ _ H1 K1 g1 walk_enum (fun H' K' s l => SqL.of (l.lst (s _ _ hp))) (fun i x H' K' K'' _ _ y => ?_)
  obtain ⟨T, y, z, h1, h2, h3, h4, h5⟩ := y
  exact ⟨T, y, z, h1, h2, h3, (Option.some.inj h4).symm, h5⟩
theorem ei_zip {elts : List Expr} {kk : Nat} {tpos p : Pos} {xs ys : List V} (hg : GlS c "zip") (hm : c.mg "zip" = none) (ha : Ev c M M1 a st H (IsL xs) W) (hb : ∀ H', Same H H' → Ev c M1 M2 b st H' (IsL ys) W)
    (hs : ∀ env, starEach [a, b] env = [(false, eval a env), (false, eval b env)] := by intro _; rfl) (hs2 : ∀ env, starEach [b] env = [(false, eval b env)] := by intro _; rfl) :
    EvI2 c M M2 (.Tuple elts kk tpos) (.Call (.Name "zip" p) [a, b] [] pos) st H (min xs.length ys.length) (fun i v _ => xs[i]? = some v) (fun i v _ => ys[i]? = some v) W := .mk fun X hX K j R r x => by
  have hX' := hX
  cases hX'
  refine cP_of (pi_zip hg hm (pa_cons cE_pe (pa_cons cE_pe pa_nil (hs2 _)) (by rw [hs, hs2])) (by rw [hs, hs2]) (by rw [hs2]; rfl)) ?_
  refine ha.run X hX K j _ (fun v H1 K1 g1 ⟨p, e1, hp⟩ => ?_) x
  refine (hb H1 g1.b).run X hX K1 g1.j _ (fun v2 H2 K2 g2 ⟨p', e2, hp'⟩ => ⟨p, p', xs, ys, by rw [e1, e2], SqL.of (g2.j.le.lst (g2.b _ _ hp)), SqL.of (g2.j.le.lst hp'), ?_⟩) (fun Mx cls d H' K' g w => x Mx cls d H' K' (g1.trans g) w)
  refine r _ _ _ H2 K2 (g1.trans g2) (walk_zip rfl) (fun H' K' s l => ⟨SqL.of (l.lst ((g2.b.trans s) _ _ hp)), SqL.of (l.lst (s _ _ hp'))⟩) (fun i x H' K' K'' _ _ y => ?_)
  obtain ⟨T, y, z, h1, h2, h3, h4, h5⟩ := y
  exact ⟨T, y, z, h1, h2, h3, h4, h5⟩
end
end Z

namespace Z
open PySem L2
open PyProof.Rows (subscriptTail)

/-- the context of a comprehension's block -/
abbrev Ct.blk (c : Ct) (scope : Scope) : Ct := ⟨c.P, c.w, c.K, c.mg, c.base, c.N, relS scope c.sc, c.k, fun _ _ _ _ => False, false⟩
theorem con_blk {X : Cx} {k : Nat} {Wx : WX} {fa : Bool} {scope : Scope} (hr : Room k X.A) (hc : X.calm = true) (hN : X.N.Nodup) (hU : X.A.guards = some []) (s0 : Shared) (H0 : Hp) (C : Addr) (cl : List (Str × Addr)) (fp : List Addr) :
    Con (Ct.blk ⟨X.prog, X.w, X.K, X.mg, X.base, X.N, X.env.scope, k, Wx, fa⟩ scope) (X.blk s0 H0 scope (compEnvC scope cl C X.env) fp) :=
  Con.mk (X.blk s0 H0 scope (compEnvC scope cl C X.env) fp) k (fun _ _ _ _ => False) false hr hc PassesOwn.never takes0 (fun z => nomatch z) hN hU
/-- canonical readings over all blocks of a comprehension -/
def bE (X : Cx) (scope : Scope) (e : Expr) : TE := fun st K Q => ∀ s0 H0 C cl fp, cE (X.blk s0 H0 scope (compEnvC scope cl C X.env) fp) e st K Q
def cTs (X : Cx) (ifs : List Expr) : TT := fun st K Q => ∀ pins s, Inv X pins st K s → wpAny (model X.prog X.w) X.A (forIn ifs true fun c r => if r = true then do let ok ← isTrue c X.env (eval c X.env); pure (ForInStep.yield ok) else pure (ForInStep.yield r)) (TP X pins st Q) X.xe s
theorem cTs_pts {X : Cx} {ifs : List Expr} : PTs X ifs (cTs X ifs) := ⟨fun pins s _ _ _ I h => h pins s I⟩
theorem cTs_of {X : Cx} {ifs : List Expr} {t : TT} {st : St} {K : Hp} {Q : Bool → Hp → Prop} (h : PTs X ifs t) (q : t st K Q) : cTs X ifs st K Q := fun pins s I => h.run pins s st K Q I q
def bT (X : Cx) (scope : Scope) (ifs : List Expr) : TT := fun st K Q => ∀ s0 H0 C cl fp, cTs (X.blk s0 H0 scope (compEnvC scope cl C X.env) fp) ifs st K Q
theorem bE_pe {X : Cx} {scope : Scope} {e : Expr} (s0 : Shared) (H0 : Hp) (C : Addr) (cl : List (Str × Addr)) (fp : List Addr) : PE (X.blk s0 H0 scope (compEnvC scope cl C X.env) fp) e (bE X scope e) := ⟨fun pins s _ _ _ I h => h s0 H0 C cl fp pins s I⟩
theorem bT_pts {X : Cx} {scope : Scope} {ifs : List Expr} (s0 : Shared) (H0 : Hp) (C : Addr) (cl : List (Str × Addr)) (fp : List Addr) : PTs (X.blk s0 H0 scope (compEnvC scope cl C X.env) fp) ifs (bT X scope ifs) := ⟨fun pins s _ _ _ I h => h s0 H0 C cl fp pins s I⟩
structure EvTs (c : Ct) (M M' : Md) (ifs : List Expr) (st : St) (H : Hp) (P : Bool → Hp → Prop) (W : XK) : Prop where
  run : ∀ X, Con c X → ∀ K, J M H K → ∀ Q : Bool → Hp → Prop, (∀ v H' K', Go M M' H K H' K' → P v H' → Q v K') → (∀ Mx cls d H' K', Go M Mx H K H' K' → W cls d H' → c.Wx cls d st K') → cTs X ifs st K Q
section
variable {c : Ct} {M M1 M2 : Md} {st : St} {H : Hp} {B : Bool → Hp → Prop} {W : XK} {e : Expr}
theorem ets_nil : EvTs c M M [] st H (IsB true) W := .mk fun X hX K j Q q x => cTs_of pts_nil (q true H K (.refl j) rfl)
theorem ets_one (h : EvT c M M1 e st H B W) : EvTs c M M1 [e] st H B W := .mk fun X hX K j Q q x => cTs_of (pts_one cT_pt) (h.run X hX K j Q q x)
end

/-- one name, two names as the target of a comprehension or a loop -/
def IsN (c : Ct) (tg : Expr) (j : Nat) : Prop := ∃ x pos, tg = .Name x pos ∧ c.N[j]? = some x ∧ Loc c.sc x ∧ (c.fa = true ∨ c.sc.names.lookup x = some .local)
theorem isN_pg {c : Ct} {tg : Expr} {j : Nat} {X : Cx} (h : IsN c tg j) (hX : Con c X) : PG X tg (gName j) := by
  obtain ⟨x, pos, rfl, h1, h2, h3⟩ := h
  cases hX with
  | mk _ k' Wx fa hr hc hp' ht hf hN hU =>
    refine pg_name hN h1 h2 ?_
    rcases h3 with h3 | h3
    · exact .inl (hf h3 x)
    · exact .inr h3
def IsN2 (c : Ct) (tg : Expr) (i j : Nat) : Prop := ∃ a b k pos, tg = .Tuple [a, b] k pos ∧ IsN c a i ∧ IsN c b j
theorem isN2_pg {c : Ct} {tg : Expr} {i j : Nat} {X : Cx} (h : IsN2 c tg i j) (hX : Con c X) : PG X tg (gTup X.K 2 (gCons (gName i) (gCons (gName j) gNil))) := by
  obtain ⟨a, b, k, pos, rfl, h1, h2⟩ := h
  have ha := isN_pg h1 hX
  have hb := isN_pg h2 hX
  obtain ⟨x, p1, rfl, _⟩ := h1
  obtain ⟨y, p2, rfl, _⟩ := h2
  cases hX with
  | mk _ k' Wx fa hr hc hp' ht hf hN hU => exact pg_tup hc (pgs_cons ha (pgs_cons hb pgs_nil))

theorem isN2_blk {X : Cx} {scope : Scope} {k : Nat} {Wx : WX} {fa : Bool} {tg : Expr} {i j : Nat} (h : IsN2 (Ct.blk ⟨X.prog, X.w, X.K, X.mg, X.base, X.N, X.env.scope, k, Wx, fa⟩ scope) tg i j) (hr : Room k X.A) (hc : X.calm = true) (hN : X.N.Nodup) (hU : X.A.guards = some []) (s0 : Shared) (H0 : Hp) (C : Addr) (cl : List (Str × Addr)) (fp : List Addr) :
    PG (X.blk s0 H0 scope (compEnvC scope cl C X.env) fp) tg (gTup X.K 2 (gCons (gName i) (gCons (gName j) gNil))) := isN2_pg h (con_blk hr hc hN hU s0 H0 C cl fp)

section
variable {c : Ct} {M M1 : Md} {Mi : Nat → Md} {st : St} {H : Hp} {W : XK} {tg iter elt kx vx : Expr} {ifs : List Expr} {scope : Scope} {pos : Pos} {n : Nat} {Y Y2 : Nat → VK} {own : List (Str × Nat)}
/-- what a turn of a list comprehension does: the tests, the element -/
def LcTurn (c : Ct) (M M' : Md) (ifs : List Expr) (elt : Expr) (st : St) (H : Hp) (acc : List V) (I : List V → Hp → Prop) : Prop :=
  match ifs with
  | [] => Ev c M M' elt st H (fun y H'' => I (acc ++ [y]) H'') W0
  | a :: r => ∃ (Mt : Md) (B : Bool → Hp → Prop), EvTs c M Mt (a :: r) st H B W0 ∧ (∀ H', Same H H' → B false H' → Md.Le Mt M' ∧ I acc H') ∧ (∀ H', Same H H' → B true H' → Ev c Mt M' elt st H' (fun y H'' => I (acc ++ [y]) H'') W0)
/-- .. of a dict comprehension: the key, the value -/
def DcTurn (c : Ct) (M M' : Md) (ifs : List Expr) (kx vx : Expr) (st : St) (H : Hp) (acc : List (Key × V)) (I : List (Key × V) → Hp → Prop) : Prop :=
  match ifs with
  | [] => Ev c M M kx st H (fun y H' => ∃ key, y = kV key ∧ Ev c M M' vx st H' (fun z H'' => I (putK acc key z) H'') W0) W0
  | a :: r => ∃ (Mt : Md) (B : Bool → Hp → Prop), EvTs c M Mt (a :: r) st H B W0 ∧ (∀ H', Same H H' → B false H' → Md.Le Mt M' ∧ I acc H') ∧
      (∀ H', Same H H' → B true H' → Ev c Mt Mt kx st H' (fun y H' => ∃ key, y = kV key ∧ Ev c Mt M' vx st H' (fun z H'' => I (putK acc key z) H'') W0) W0)
/-- a dict comprehension over a walk (as lc_it) -/
theorem dc_it {J : It} {n : Nat} {G : Hp → Prop} {Yh : Nat → Hp → V → Hp → Prop} (w : Walk J n G Yh) {g : TG} {tt : TT} {tk tv : TE} {vs : List Nat} {σ : St} {H1 : Hp} {D : Addr} {Qd : Hp → Prop} (Pv : Nat → Hp → Prop) (h0 : Pv 0 (upd H1 D (.dK []))) (hG : ∀ i H, i ≤ n → Pv i H → G H)
    (hs : ∀ i x H H', i < n → Pv i H → Yh i H x H' → g x (wipe σ vs) H' fun σ2 H2 => wipe σ2 vs = wipe σ vs ∧ tt σ2 H2 fun b H3 =>
      if b = true then tk σ2 H3 fun y H4 => tv σ2 H4 fun z H5 => ∃ kvs k, y = kV k ∧ H5 D = some (.dK kvs) ∧ kvs.length < sizeLine ∧ Pv (i + 1) (upd H5 D (.dK (putK kvs k z))) else Pv (i + 1) H3) (hd : ∀ H, Pv n H → Qd H) :
    ∃ W : Nat → Nat → Hp → Prop, (∃ m, W 0 m (upd H1 D (.dK []))) ∧ ∀ i m H, W i m H →
      (J.stop i H ∧ Qd H) ∨ (J.go i H ∧ ∃ Nx : Hp → Prop, (∀ H', Nx H' → ∃ m', m' < m ∧ W (i + 1) m' H') ∧ ∀ x H', J.yld i H x H' → g x (wipe σ vs) H' fun σ2 H2 => wipe σ2 vs = wipe σ vs ∧ tt σ2 H2 fun b H3 =>
        if b = true then tk σ2 H3 fun y H4 => tv σ2 H4 fun z H5 => ∃ kvs k, y = kV k ∧ H5 D = some (.dK kvs) ∧ kvs.length < sizeLine ∧ Nx (upd H5 D (.dK (putK kvs k z))) else Nx H3) := by
  refine ⟨fun i m H => m = n - i ∧ i ≤ n ∧ Pv i H, ⟨n, by simp, Nat.zero_le _, h0⟩, ?_⟩
  rintro i m H ⟨rfl, hi, p⟩
  have q := hG i H hi p
  by_cases hlt : i < n
  · refine .inr ⟨w.goes i H hlt q, Pv (i + 1), fun H' p' => ⟨n - (i + 1), by omega, rfl, hlt, p'⟩, fun x H' y => hs i x H H' hlt p (w.yields i H x H' hlt q y)⟩
  · have e : i = n := by omega
    subst e
    exact .inl ⟨w.stops H q, hd H p⟩
theorem putK_len (c : List (Key × V)) (k : Key) (x : V) : (putK c k x).length ≤ c.length + 1 := by
  unfold putK
  split
  · rw [List.length_map]; omega
  · rw [List.length_append, List.length_singleton]; omega
theorem lc_run {j : Nat} {X : Cx} {K : Hp} {Q : VK} (hX : Con c X) (hi : EvI c M (Mi 0) tg iter st H n Y W) (hn : n ≤ 1000000)
    (hw : ∀ x, wipe ((wipe st (own.map (·.2))).set j (some x)) (own.map (·.2)) = wipe st (own.map (·.2)))
    (I : Nat → List V → Hp → Prop) (hm : ∀ i acc H1 H2, Same H1 H2 → I i acc H1 → I i acc H2) (h0 : ∀ H', Same H H' → I 0 [] H')
    (hs : ∀ i x acc H', Same H H' → i < n → Y i x H' → I i acc H' → LcTurn (c.blk scope) (Mi i) (Mi (i + 1)) ifs elt ((wipe st (own.map (·.2))).set j (some x)) H' acc (I (i + 1)))
    (jj : J M H K) (q : ∀ D acc H' K', Go M (Mi n) H K H' K' → H D = none → H' D = some (.lst acc) → acc.length ≤ n → I n acc H' → Q (.ref D) K')
    (xx : ∀ Mx cls d H' K', Go M Mx H K H' K' → W cls d H' → c.Wx cls d st K') :
    tLc (cP X tg iter) (gName j) (bT X scope ifs) (bE X scope elt) (own.map (·.2)) st K Q := by
  have hX' := hX
  have hline : 1000000 < sizeLine := by rw [sizeLine_eq]; decide
  cases hX' with
  | mk _ k' Wx fa hr hc hp' ht hf hN hU =>
    refine hi.run X hX K jj _ (fun Jt G Yh H1 K1 g1 wk hG hy => ?_) xx
    intro D hD
    have hD0 : K D = none := by
      cases e : K D with
      | none => rfl
      | some o => exact absurd hD (g1.d D (by rw [e]; intro z; cases z))
    have gN := g1.trans (Go.newOwn (o := .lst []) g1.j hD)
    refine lc_it wk (fun i K' => ∃ H' acc, Go M (Mi i) H K H' K' ∧ Same H1 H' ∧ Own (Mi i) H' K' D (.lst acc) ∧ acc.length ≤ i ∧ I i acc H') ⟨H1, [], gN, Same.refl H1, Own.new g1.j hD, Nat.le_refl _, h0 H1 g1.b⟩ ?_ ?_ ?_
    · rintro i K' hi' ⟨H', acc, g, s, w, _, _⟩
      exact hG H' K' s g.j.le
    · rintro i x K0 K' hi' ⟨H', acc, g, s, w, hl, hI⟩ yy
      obtain ⟨e, hY⟩ := hy i x H' K0 K' hi' s yy
      subst e
      refine ⟨hw x, ?_⟩
      have turn := hs i x acc H' g.b hi' hY hI
      have fin : ∀ (M' : Md) y H4 K4, Go (Mi i) M' H' K' H4 K4 → M' = Mi (i + 1) → I (i + 1) (acc ++ [y]) H4 → ∃ acc', K4 D = some (.lst acc') ∧ acc'.length < sizeLine ∧
          ∃ H5 acc'', Go M (Mi (i + 1)) H K H5 (upd K4 D (.lst (acc' ++ [y]))) ∧ Same H1 H5 ∧ Own (Mi (i + 1)) H5 (upd K4 D (.lst (acc' ++ [y]))) D (.lst acc'') ∧ acc''.length ≤ i + 1 ∧ I (i + 1) acc'' H5 := by
        rintro M' y H4 K4 g4 rfl hI4
        have w4 := g4.own w
        exact ⟨acc, w4.k, by omega, H4, acc ++ [y], (g.trans g4).setOwn hD0 w4, s.trans g4.b, w4.set, by rw [List.length_append, List.length_singleton]; omega, hI4⟩
      cases ifs with
      | nil =>
        intro s0 H0 C cl fp
        refine cTs_of pts_nil ?_
        unfold tYes
        refine iteT ?_
        intro s0 H0 C cl fp
        exact turn.run _ (con_blk hr hc hN hU s0 H0 C cl fp) _ g.j _ (fun y H4 K4 g4 p4 => fin _ y H4 K4 g4 rfl p4) (fun _ _ _ _ _ _ w => w.elim)
      | cons if0 ifr =>
        obtain ⟨Mt, B, hB, hf', ht'⟩ := turn
        intro s0 H0 C cl fp
        refine hB.run _ (con_blk hr hc hN hU s0 H0 C cl fp) _ g.j _ (fun b H4 K4 g4 p4 => ?_) (fun _ _ _ _ _ _ w => w.elim)
        cases b with
        | false =>
          obtain ⟨l, hI4⟩ := hf' H4 g4.b p4
          exact iteF ⟨H4, acc, (g.trans g4).trans (l.go g4.j), s.trans g4.b, (l.go g4.j).own (g4.own w), by omega, hI4⟩
        | true =>
          refine iteT ?_
          intro s0 H0 C cl fp
          exact (ht' H4 g4.b p4).run _ (con_blk hr hc hN hU s0 H0 C cl fp) K4 g4.j _ (fun y H5 K5 g5 p5 => fin _ y H5 K5 (g4.trans g5) rfl p5) (fun _ _ _ _ _ _ w => w.elim)
    · rintro K' ⟨H', acc, g, s, w, hl, hI⟩
      exact q D acc _ K' (g.keep hD0 w) (jj.fresh hD0) upd_same hl (hm n acc _ _ (same_upd w.h) hI)
theorem lc_run2 {i0 j : Nat} {X : Cx} {K : Hp} {Q : VK} (hX : Con c X) (hi : EvI2 c M (Mi 0) tg iter st H n Y Y2 W) (hn : n ≤ 1000000)
    (hw : ∀ x y, wipe (((wipe st (own.map (·.2))).set i0 (some x)).set j (some y)) (own.map (·.2)) = wipe st (own.map (·.2)))
    (I : Nat → List V → Hp → Prop) (hm : ∀ i acc H1 H2, Same H1 H2 → I i acc H1 → I i acc H2) (h0 : ∀ H', Same H H' → I 0 [] H')
    (hs : ∀ i x y acc H', Same H H' → i < n → Y i x H' → Y2 i y H' → I i acc H' → LcTurn (c.blk scope) (Mi i) (Mi (i + 1)) ifs elt (((wipe st (own.map (·.2))).set i0 (some x)).set j (some y)) H' acc (I (i + 1)))
    (jj : J M H K) (q : ∀ D acc H' K', Go M (Mi n) H K H' K' → H D = none → H' D = some (.lst acc) → acc.length ≤ n → I n acc H' → Q (.ref D) K')
    (xx : ∀ Mx cls d H' K', Go M Mx H K H' K' → W cls d H' → c.Wx cls d st K') :
    tLc (cP X tg iter) (gTup c.K 2 (gCons (gName i0) (gCons (gName j) gNil))) (bT X scope ifs) (bE X scope elt) (own.map (·.2)) st K Q := by
  have hX' := hX
  have hline : 1000000 < sizeLine := by rw [sizeLine_eq]; decide
  cases hX' with
  | mk _ k' Wx fa hr hc hp' ht hf hN hU =>
    refine hi.run X hX K jj _ (fun Jt G Yh H1 K1 g1 wk hG hy => ?_) xx
    intro D hD
    have hD0 : K D = none := by
      cases e : K D with
      | none => rfl
      | some o => exact absurd hD (g1.d D (by rw [e]; intro z; cases z))
    have gN := g1.trans (Go.newOwn (o := .lst []) g1.j hD)
    refine lc_it wk (fun i K' => ∃ H' acc, Go M (Mi i) H K H' K' ∧ Same H1 H' ∧ Own (Mi i) H' K' D (.lst acc) ∧ acc.length ≤ i ∧ I i acc H') ⟨H1, [], gN, Same.refl H1, Own.new g1.j hD, Nat.le_refl _, h0 H1 g1.b⟩ ?_ ?_ ?_
    · rintro i K' hi' ⟨H', acc, g, s, w, _, _⟩
      exact hG H' K' s g.j.le
    · rintro i v K0 K' hi' ⟨H', acc, g0, s, w0, hl, hI⟩ yy
      obtain ⟨T, x, y0, e1, e2, e3, hY, hY2⟩ := hy i v H' K0 K' hi' s yy
      subst e3
      have gT := Go.newOwn (o := .tup [x, y0]) g0.j e2
      have g := g0.trans gT
      have w := gT.own w0
      refine ⟨T, [x, y0], e1, .inl (.inl upd_same), rfl, x, [y0], rfl, y0, [], rfl, rfl, ?_⟩
      refine ⟨hw x y0, ?_⟩
      have turn := hs i x y0 acc H' g.b hi' hY hY2 hI
      have fin : ∀ (M' : Md) y H4 K4, Go (Mi i) M' H' (upd K0 T (.tup [x, y0])) H4 K4 → M' = Mi (i + 1) → I (i + 1) (acc ++ [y]) H4 → ∃ acc', K4 D = some (.lst acc') ∧ acc'.length < sizeLine ∧
          ∃ H5 acc'', Go M (Mi (i + 1)) H K H5 (upd K4 D (.lst (acc' ++ [y]))) ∧ Same H1 H5 ∧ Own (Mi (i + 1)) H5 (upd K4 D (.lst (acc' ++ [y]))) D (.lst acc'') ∧ acc''.length ≤ i + 1 ∧ I (i + 1) acc'' H5 := by
        rintro M' y H4 K4 g4 rfl hI4
        have w4 := g4.own w
        exact ⟨acc, w4.k, by omega, H4, acc ++ [y], (g.trans g4).setOwn hD0 w4, s.trans g4.b, w4.set, by rw [List.length_append, List.length_singleton]; omega, hI4⟩
      cases ifs with
      | nil =>
        intro s0 H0 C cl fp
        refine cTs_of pts_nil ?_
        unfold tYes
        refine iteT ?_
        intro s0 H0 C cl fp
        exact turn.run _ (con_blk hr hc hN hU s0 H0 C cl fp) _ g.j _ (fun y H4 K4 g4 p4 => fin _ y H4 K4 g4 rfl p4) (fun _ _ _ _ _ _ w => w.elim)
      | cons if0 ifr =>
        obtain ⟨Mt, B, hB, hf', ht'⟩ := turn
        intro s0 H0 C cl fp
        refine hB.run _ (con_blk hr hc hN hU s0 H0 C cl fp) _ g.j _ (fun b H4 K4 g4 p4 => ?_) (fun _ _ _ _ _ _ w => w.elim)
        cases b with
        | false =>
          obtain ⟨l, hI4⟩ := hf' H4 g4.b p4
          exact iteF ⟨H4, acc, (g.trans g4).trans (l.go g4.j), s.trans g4.b, (l.go g4.j).own (g4.own w), by omega, hI4⟩
        | true =>
          refine iteT ?_
          intro s0 H0 C cl fp
          exact (ht' H4 g4.b p4).run _ (con_blk hr hc hN hU s0 H0 C cl fp) K4 g4.j _ (fun y H5 K5 g5 p5 => fin _ y H5 K5 (g4.trans g5) rfl p5) (fun _ _ _ _ _ _ w => w.elim)
    · rintro K' ⟨H', acc, g, s, w, hl, hI⟩
      exact q D acc _ K' (g.keep hD0 w) (jj.fresh hD0) upd_same hl (hm n acc _ _ (same_upd w.h) hI)
theorem dc_run {j : Nat} {X : Cx} {K : Hp} {Q : VK} (hX : Con c X) (hi : EvI c M (Mi 0) tg iter st H n Y W) (hn : n ≤ 1000000)
    (hw : ∀ x, wipe ((wipe st (own.map (·.2))).set j (some x)) (own.map (·.2)) = wipe st (own.map (·.2)))
    (I : Nat → List (Key × V) → Hp → Prop) (hm : ∀ i acc H1 H2, Same H1 H2 → I i acc H1 → I i acc H2) (h0 : ∀ H', Same H H' → I 0 [] H')
    (hs : ∀ i x acc H', Same H H' → i < n → Y i x H' → I i acc H' → DcTurn (c.blk scope) (Mi i) (Mi (i + 1)) ifs kx vx ((wipe st (own.map (·.2))).set j (some x)) H' acc (I (i + 1)))
    (jj : J M H K) (q : ∀ D acc H' K', Go M (Mi n) H K H' K' → H D = none → H' D = some (.dK acc) → acc.length ≤ n → I n acc H' → Q (.ref D) K')
    (xx : ∀ Mx cls d H' K', Go M Mx H K H' K' → W cls d H' → c.Wx cls d st K') :
    tDc (cP X tg iter) (gName j) (bT X scope ifs) (bE X scope kx) (bE X scope vx) (own.map (·.2)) st K Q := by
  have hX' := hX
  have hline : 1000000 < sizeLine := by rw [sizeLine_eq]; decide
  cases hX' with
  | mk _ k' Wx fa hr hc hp' ht hf hN hU =>
    refine hi.run X hX K jj _ (fun Jt G Yh H1 K1 g1 wk hG hy => ?_) xx
    intro D hD
    have hD0 : K D = none := by
      cases e : K D with
      | none => rfl
      | some o => exact absurd hD (g1.d D (by rw [e]; intro z; cases z))
    have gN := g1.trans (Go.newOwn (o := .dK []) g1.j hD)
    refine dc_it wk (fun i K' => ∃ H' acc, Go M (Mi i) H K H' K' ∧ Same H1 H' ∧ Own (Mi i) H' K' D (.dK acc) ∧ acc.length ≤ i ∧ I i acc H') ⟨H1, [], gN, Same.refl H1, Own.new g1.j hD, Nat.le_refl _, h0 H1 g1.b⟩ ?_ ?_ ?_
    · rintro i K' hi' ⟨H', acc, g, s, w, _, _⟩
      exact hG H' K' s g.j.le
    · rintro i x K0 K' hi' ⟨H', acc, g, s, w, hl, hI⟩ yy
      obtain ⟨e, hY⟩ := hy i x H' K0 K' hi' s yy
      subst e
      refine ⟨hw x, ?_⟩
      have turn := hs i x acc H' g.b hi' hY hI
      have fin : ∀ (M' : Md) key z H4 K4, Go (Mi i) M' H' K' H4 K4 → M' = Mi (i + 1) → I (i + 1) (putK acc key z) H4 → ∃ kvs k, kV key = kV k ∧ K4 D = some (.dK kvs) ∧ kvs.length < sizeLine ∧
          ∃ H5 acc'', Go M (Mi (i + 1)) H K H5 (upd K4 D (.dK (putK kvs k z))) ∧ Same H1 H5 ∧ Own (Mi (i + 1)) H5 (upd K4 D (.dK (putK kvs k z))) D (.dK acc'') ∧ acc''.length ≤ i + 1 ∧ I (i + 1) acc'' H5 := by
        rintro M' key z H4 K4 g4 rfl hI4
        have w4 := g4.own w
        exact ⟨acc, key, rfl, w4.k, by omega, H4, putK acc key z, (g.trans g4).setOwn hD0 w4, s.trans g4.b, w4.set, by have := putK_len acc key z; omega, hI4⟩
      cases ifs with
      | nil =>
        intro s0 H0 C cl fp
        refine cTs_of pts_nil ?_
        unfold tYes
        refine iteT ?_
        intro s0 H0 C cl fp
        refine turn.run _ (con_blk hr hc hN hU s0 H0 C cl fp) _ g.j _ (fun y H4 K4 g4 p4 => ?_) (fun _ _ _ _ _ _ w => w.elim)
        obtain ⟨key, e1, p4⟩ := p4
        subst e1
        intro s0 H0 C cl fp
        exact p4.run _ (con_blk hr hc hN hU s0 H0 C cl fp) K4 g4.j _ (fun z H5 K5 g5 p5 => fin _ key z H5 K5 (g4.trans g5) rfl p5) (fun _ _ _ _ _ _ w => w.elim)
      | cons if0 ifr =>
        obtain ⟨Mt, B, hB, hf', ht'⟩ := turn
        intro s0 H0 C cl fp
        refine hB.run _ (con_blk hr hc hN hU s0 H0 C cl fp) _ g.j _ (fun b H4 K4 g4 p4 => ?_) (fun _ _ _ _ _ _ w => w.elim)
        cases b with
        | false =>
          obtain ⟨l, hI4⟩ := hf' H4 g4.b p4
          exact iteF ⟨H4, acc, (g.trans g4).trans (l.go g4.j), s.trans g4.b, (l.go g4.j).own (g4.own w), by omega, hI4⟩
        | true =>
          refine iteT ?_
          intro s0 H0 C cl fp
          refine (ht' H4 g4.b p4).run _ (con_blk hr hc hN hU s0 H0 C cl fp) K4 g4.j _ (fun y H5 K5 g5 p5 => ?_) (fun _ _ _ _ _ _ w => w.elim)
          obtain ⟨key, e1, p5⟩ := p5
          subst e1
          intro s0 H0 C cl fp
          exact p5.run _ (con_blk hr hc hN hU s0 H0 C cl fp) K5 g5.j _ (fun z H6 K6 g6 p6 => fin _ key z H6 K6 (g4.trans (g5.trans g6)) rfl p6) (fun _ _ _ _ _ _ w => w.elim)
    · rintro K' ⟨H', acc, g, s, w, hl, hI⟩
      exact q D acc _ K' (g.keep hD0 w) (jj.fresh hD0) upd_same hl (hm n acc _ _ (same_upd w.h) hI)
theorem dc_run2 {i0 j : Nat} {X : Cx} {K : Hp} {Q : VK} (hX : Con c X) (hi : EvI2 c M (Mi 0) tg iter st H n Y Y2 W) (hn : n ≤ 1000000)
    (hw : ∀ x y, wipe (((wipe st (own.map (·.2))).set i0 (some x)).set j (some y)) (own.map (·.2)) = wipe st (own.map (·.2)))
    (I : Nat → List (Key × V) → Hp → Prop) (hm : ∀ i acc H1 H2, Same H1 H2 → I i acc H1 → I i acc H2) (h0 : ∀ H', Same H H' → I 0 [] H')
    (hs : ∀ i x y acc H', Same H H' → i < n → Y i x H' → Y2 i y H' → I i acc H' → DcTurn (c.blk scope) (Mi i) (Mi (i + 1)) ifs kx vx (((wipe st (own.map (·.2))).set i0 (some x)).set j (some y)) H' acc (I (i + 1)))
    (jj : J M H K) (q : ∀ D acc H' K', Go M (Mi n) H K H' K' → H D = none → H' D = some (.dK acc) → acc.length ≤ n → I n acc H' → Q (.ref D) K')
    (xx : ∀ Mx cls d H' K', Go M Mx H K H' K' → W cls d H' → c.Wx cls d st K') :
    tDc (cP X tg iter) (gTup c.K 2 (gCons (gName i0) (gCons (gName j) gNil))) (bT X scope ifs) (bE X scope kx) (bE X scope vx) (own.map (·.2)) st K Q := by
  have hX' := hX
  have hline : 1000000 < sizeLine := by rw [sizeLine_eq]; decide
  cases hX' with
  | mk _ k' Wx fa hr hc hp' ht hf hN hU =>
    refine hi.run X hX K jj _ (fun Jt G Yh H1 K1 g1 wk hG hy => ?_) xx
    intro D hD
    have hD0 : K D = none := by
      cases e : K D with
      | none => rfl
      | some o => exact absurd hD (g1.d D (by rw [e]; intro z; cases z))
    have gN := g1.trans (Go.newOwn (o := .dK []) g1.j hD)
    refine dc_it wk (fun i K' => ∃ H' acc, Go M (Mi i) H K H' K' ∧ Same H1 H' ∧ Own (Mi i) H' K' D (.dK acc) ∧ acc.length ≤ i ∧ I i acc H') ⟨H1, [], gN, Same.refl H1, Own.new g1.j hD, Nat.le_refl _, h0 H1 g1.b⟩ ?_ ?_ ?_
    · rintro i K' hi' ⟨H', acc, g, s, w, _, _⟩
      exact hG H' K' s g.j.le
    · rintro i v K0 K' hi' ⟨H', acc, g0, s, w0, hl, hI⟩ yy
      obtain ⟨T, x, y0, e1, e2, e3, hY, hY2⟩ := hy i v H' K0 K' hi' s yy
      subst e3
      have gT := Go.newOwn (o := .tup [x, y0]) g0.j e2
      have g := g0.trans gT
      have w := gT.own w0
      refine ⟨T, [x, y0], e1, .inl (.inl upd_same), rfl, x, [y0], rfl, y0, [], rfl, rfl, ?_⟩
      refine ⟨hw x y0, ?_⟩
      have turn := hs i x y0 acc H' g.b hi' hY hY2 hI
      have fin : ∀ (M' : Md) key z H4 K4, Go (Mi i) M' H' (upd K0 T (.tup [x, y0])) H4 K4 → M' = Mi (i + 1) → I (i + 1) (putK acc key z) H4 → ∃ kvs k, kV key = kV k ∧ K4 D = some (.dK kvs) ∧ kvs.length < sizeLine ∧
          ∃ H5 acc'', Go M (Mi (i + 1)) H K H5 (upd K4 D (.dK (putK kvs k z))) ∧ Same H1 H5 ∧ Own (Mi (i + 1)) H5 (upd K4 D (.dK (putK kvs k z))) D (.dK acc'') ∧ acc''.length ≤ i + 1 ∧ I (i + 1) acc'' H5 := by
        rintro M' key z H4 K4 g4 rfl hI4
        have w4 := g4.own w
        exact ⟨acc, key, rfl, w4.k, by omega, H4, putK acc key z, (g.trans g4).setOwn hD0 w4, s.trans g4.b, w4.set, by have := putK_len acc key z; omega, hI4⟩
      cases ifs with
      | nil =>
        intro s0 H0 C cl fp
        refine cTs_of pts_nil ?_
        unfold tYes
        refine iteT ?_
        intro s0 H0 C cl fp
        refine turn.run _ (con_blk hr hc hN hU s0 H0 C cl fp) _ g.j _ (fun y H4 K4 g4 p4 => ?_) (fun _ _ _ _ _ _ w => w.elim)
        obtain ⟨key, e1, p4⟩ := p4
        subst e1
        intro s0 H0 C cl fp
        exact p4.run _ (con_blk hr hc hN hU s0 H0 C cl fp) K4 g4.j _ (fun z H5 K5 g5 p5 => fin _ key z H5 K5 (g4.trans g5) rfl p5) (fun _ _ _ _ _ _ w => w.elim)
      | cons if0 ifr =>
        obtain ⟨Mt, B, hB, hf', ht'⟩ := turn
        intro s0 H0 C cl fp
        refine hB.run _ (con_blk hr hc hN hU s0 H0 C cl fp) _ g.j _ (fun b H4 K4 g4 p4 => ?_) (fun _ _ _ _ _ _ w => w.elim)
        cases b with
        | false =>
          obtain ⟨l, hI4⟩ := hf' H4 g4.b p4
          exact iteF ⟨H4, acc, (g.trans g4).trans (l.go g4.j), s.trans g4.b, (l.go g4.j).own (g4.own w), by omega, hI4⟩
        | true =>
          refine iteT ?_
          intro s0 H0 C cl fp
          refine (ht' H4 g4.b p4).run _ (con_blk hr hc hN hU s0 H0 C cl fp) K4 g4.j _ (fun y H5 K5 g5 p5 => ?_) (fun _ _ _ _ _ _ w => w.elim)
          obtain ⟨key, e1, p5⟩ := p5
          subst e1
          intro s0 H0 C cl fp
          exact p5.run _ (con_blk hr hc hN hU s0 H0 C cl fp) K5 g5.j _ (fun z H6 K6 g6 p6 => fin _ key z H6 K6 (g4.trans (g5.trans g6)) rfl p6) (fun _ _ _ _ _ _ w => w.elim)
    · rintro K' ⟨H', acc, g, s, w, hl, hI⟩
      exact q D acc _ K' (g.keep hD0 w) (jj.fresh hD0) upd_same hl (hm n acc _ _ (same_upd w.h) hI)
end
end Z

namespace Z
open PySem L2
open PyProof.Rows (subscriptTail)

section
variable {c : Ct} {M M1 M2 : Md} {Mi : Nat → Md} {st : St} {H : Hp} {W : XK} {P : VK} {tg iter elt kx vx : Expr} {ifs : List Expr} {scope : Scope} {pos : Pos} {n : Nat} {Y Y2 : Nat → VK} {own : List (Str × Nat)}

theorem ev_lc {j : Nat} (hi : EvI c M (Mi 0) tg iter st H n Y W) (hb : blkC c.N c.sc scope own = true) (htg : IsN (c.blk scope) tg j) (hn : n ≤ 1000000)
    (hw : ∀ x, wipe ((wipe st (own.map (·.2))).set j (some x)) (own.map (·.2)) = wipe st (own.map (·.2)))
    (I : Nat → List V → Hp → Prop) (hm : ∀ i acc H1 H2, Same H1 H2 → I i acc H1 → I i acc H2) (h0 : ∀ H', Same H H' → I 0 [] H')
    (hs : ∀ i x acc H', Same H H' → i < n → Y i x H' → I i acc H' → LcTurn (c.blk scope) (Mi i) (Mi (i + 1)) ifs elt ((wipe st (own.map (·.2))).set j (some x)) H' acc (I (i + 1)))
    (hp : ∀ p acc H', Same H H' → H p = none → H' p = some (.lst acc) → acc.length ≤ n → I n acc H' → P (.ref p) H')
    (hf : ∀ env x, foldedSetIterable iter env x = pure x := by intro _ _; rfl) : Ev c M (Mi n) (.ListComp elt [⟨tg, iter, ifs, 0⟩] scope pos) st H P W := .mk fun X hX K jj Q q xx => by
  have hX' := hX
  cases hX' with
  | mk _ k' Wx fa hr hc hp' ht hf' hN hU =>
    refine cE_of (pe_lc hc hN cP_pi (blkOk_by hb) (fun s0 H0 C cl fp => isN_pg htg (con_blk hr hc hN hU s0 H0 C cl fp)) bT_pts bE_pe (hf _)) ?_
    exact lc_run hX hi hn hw I hm h0 hs jj (fun D acc H' K' g nw e l i => q _ H' K' g (hp D acc H' g.b nw e l i)) xx
theorem ev_lc2 {i0 j : Nat} (hi : EvI2 c M (Mi 0) tg iter st H n Y Y2 W) (hb : blkC c.N c.sc scope own = true) (htg : IsN2 (c.blk scope) tg i0 j) (hn : n ≤ 1000000)
    (hw : ∀ x y, wipe (((wipe st (own.map (·.2))).set i0 (some x)).set j (some y)) (own.map (·.2)) = wipe st (own.map (·.2)))
    (I : Nat → List V → Hp → Prop) (hm : ∀ i acc H1 H2, Same H1 H2 → I i acc H1 → I i acc H2) (h0 : ∀ H', Same H H' → I 0 [] H')
    (hs : ∀ i x y acc H', Same H H' → i < n → Y i x H' → Y2 i y H' → I i acc H' → LcTurn (c.blk scope) (Mi i) (Mi (i + 1)) ifs elt (((wipe st (own.map (·.2))).set i0 (some x)).set j (some y)) H' acc (I (i + 1)))
    (hp : ∀ p acc H', Same H H' → H p = none → H' p = some (.lst acc) → acc.length ≤ n → I n acc H' → P (.ref p) H')
    (hf : ∀ env x, foldedSetIterable iter env x = pure x := by intro _ _; rfl) : Ev c M (Mi n) (.ListComp elt [⟨tg, iter, ifs, 0⟩] scope pos) st H P W := .mk fun X hX K jj Q q xx => by
  have hX' := hX
  cases hX' with
  | mk _ k' Wx fa hr hc hp' ht hf' hN hU =>
    refine cE_of (pe_lc hc hN cP_pi (blkOk_by hb) (isN2_blk htg hr hc hN hU) bT_pts bE_pe (hf _)) ?_
    exact lc_run2 hX hi hn hw I hm h0 hs jj (fun D acc H' K' g nw e l i => q _ H' K' g (hp D acc H' g.b nw e l i)) xx
theorem ev_dc {j : Nat} (hi : EvI c M (Mi 0) tg iter st H n Y W) (hb : blkC c.N c.sc scope own = true) (htg : IsN (c.blk scope) tg j) (hn : n ≤ 1000000)
    (hw : ∀ x, wipe ((wipe st (own.map (·.2))).set j (some x)) (own.map (·.2)) = wipe st (own.map (·.2)))
    (I : Nat → List (Key × V) → Hp → Prop) (hm : ∀ i acc H1 H2, Same H1 H2 → I i acc H1 → I i acc H2) (h0 : ∀ H', Same H H' → I 0 [] H')
    (hs : ∀ i x acc H', Same H H' → i < n → Y i x H' → I i acc H' → DcTurn (c.blk scope) (Mi i) (Mi (i + 1)) ifs kx vx ((wipe st (own.map (·.2))).set j (some x)) H' acc (I (i + 1)))
    (hp : ∀ p acc H', Same H H' → H p = none → H' p = some (.dK acc) → acc.length ≤ n → I n acc H' → P (.ref p) H')
    (hf : ∀ env x, foldedSetIterable iter env x = pure x := by intro _ _; rfl) : Ev c M (Mi n) (.DictComp kx vx [⟨tg, iter, ifs, 0⟩] scope pos) st H P W := .mk fun X hX K jj Q q xx => by
  have hX' := hX
  cases hX' with
  | mk _ k' Wx fa hr hc hp' ht hf' hN hU =>
    refine cE_of (pe_dc hc hN cP_pi (blkOk_by hb) (fun s0 H0 C cl fp => isN_pg htg (con_blk hr hc hN hU s0 H0 C cl fp)) bT_pts bE_pe bE_pe (hf _)) ?_
    exact dc_run hX hi hn hw I hm h0 hs jj (fun D acc H' K' g nw e l i => q _ H' K' g (hp D acc H' g.b nw e l i)) xx
theorem ev_dc2 {i0 j : Nat} (hi : EvI2 c M (Mi 0) tg iter st H n Y Y2 W) (hb : blkC c.N c.sc scope own = true) (htg : IsN2 (c.blk scope) tg i0 j) (hn : n ≤ 1000000)
    (hw : ∀ x y, wipe (((wipe st (own.map (·.2))).set i0 (some x)).set j (some y)) (own.map (·.2)) = wipe st (own.map (·.2)))
    (I : Nat → List (Key × V) → Hp → Prop) (hm : ∀ i acc H1 H2, Same H1 H2 → I i acc H1 → I i acc H2) (h0 : ∀ H', Same H H' → I 0 [] H')
    (hs : ∀ i x y acc H', Same H H' → i < n → Y i x H' → Y2 i y H' → I i acc H' → DcTurn (c.blk scope) (Mi i) (Mi (i + 1)) ifs kx vx (((wipe st (own.map (·.2))).set i0 (some x)).set j (some y)) H' acc (I (i + 1)))
    (hp : ∀ p acc H', Same H H' → H p = none → H' p = some (.dK acc) → acc.length ≤ n → I n acc H' → P (.ref p) H')
    (hf : ∀ env x, foldedSetIterable iter env x = pure x := by intro _ _; rfl) : Ev c M (Mi n) (.DictComp kx vx [⟨tg, iter, ifs, 0⟩] scope pos) st H P W := .mk fun X hX K jj Q q xx => by
  have hX' := hX
  cases hX' with
  | mk _ k' Wx fa hr hc hp' ht hf' hN hU =>
    refine cE_of (pe_dc hc hN cP_pi (blkOk_by hb) (isN2_blk htg hr hc hN hU) bT_pts bE_pe bE_pe (hf _)) ?_
    exact dc_run2 hX hi hn hw I hm h0 hs jj (fun D acc H' K' g nw e l i => q _ H' K' g (hp D acc H' g.b nw e l i)) xx
end

/-! ### statements -/
section
variable {c : Ct} {X : Cx} {M0 M M1 M2 : Md} {Mi : Nat → Md} {H0 K0 H K : Hp} {st : St} {D : Ends} {W : XK} {P : VK} {e a b tg iter elt kx vx : Expr} {ifs : List Expr} {scope : Scope} {pos p1 : Pos} {n : Nat} {Y Y2 : Nat → VK} {own : List (Str × Nat)} {s : Stmt} {r b1 b2 : List Stmt} {x : Str}
theorem b_cons (h : cS X s { D with nx := cB X r D } st K) : cB X (s :: r) D st K := cB_of (pss_cons cS_ps cB_pss) h
theorem b_one (h : cS X s D st K) : cB X [s] D st K := cB_of (pss_one cS_ps) h
theorem b_nil (h : D.nx st K) : cB X [] D st K := cB_of pss_nil h
/-- a name that is stored -/
def StoreN (c : Ct) (x : Str) (i : Nat) : Prop := c.N[i]? = some x ∧ Loc c.sc x ∧ (c.fa = true ∨ c.sc.names.lookup x = some .local)
/-- what errors may leave the def -/
def Errs (c : Ct) (M0 : Md) (H0 K0 : Hp) (W : XK) : Prop := ∀ Mx cls d st H' K', Go M0 Mx H0 K0 H' K' → W cls d H' → c.Wx cls d st K'
theorem errs0 : Errs c M0 H0 K0 W0 := fun _ _ _ _ _ _ _ w => w.elim
theorem s_set {i : Nat} (hX : Con c X) (g : Go M0 M H0 K0 H K) (er : Errs c M0 H0 K0 W) (hi : StoreN c x i) (he : Ev c M M1 e st H P W)
    (k : ∀ v H' K', Go M0 M1 H0 K0 H' K' → Go M M1 H K H' K' → P v H' → D.nx (st.set i (some v)) K')
    (hs : ∀ env, swapsWith e (some (.Name x p1)) pos.line env = pure false := by intro _; rfl) : cS X (.Assign [.Name x p1] e pos) D st K := by
  have hX' := hX
  cases hX' with
  | mk _ k' Wx fa hr hc hp' ht hf hN hU =>
    obtain ⟨h1, h2, h3⟩ := hi
    refine cS_of (ps_set hN h1 h2 cE_pe (hs _) (h3.imp (fun z => hf z x) id)) ?_
    exact he.run X hX K g.j _ (fun v H' K' g' p => k v H' K' (g.trans g') g' p) (fun Mx cls d H' K' g' w => er Mx cls d st H' K' (g.trans g') w)
theorem s_ret (hX : Con c X) (g : Go M0 M H0 K0 H K) (er : Errs c M0 H0 K0 W) (he : Ev c M M1 e st H P W) (k : ∀ v H' K', Go M0 M1 H0 K0 H' K' → P v H' → D.rt v K') : cS X (.Return (some e) pos) D st K :=
  cS_of (ps_ret cE_pe) (he.run X hX K g.j _ (fun v H' K' g' p => k v H' K' (g.trans g') p) (fun Mx cls d H' K' g' w => er Mx cls d st H' K' (g.trans g') w))
theorem s_retN (k : D.rt .non K) : cS X (.Return none pos) D st K := cS_of ps_retN k
theorem s_pass (k : D.nx st K) : cS X (.Pass pos) D st K := cS_of ps_pass k
theorem s_brk (k : D.bk st K) : cS X (.Break pos) D st K := cS_of ps_break k
theorem s_cont (k : D.ct st K) : cS X (.Continue pos) D st K := cS_of ps_continue k
theorem s_expr (hX : Con c X) (g : Go M0 M H0 K0 H K) (er : Errs c M0 H0 K0 W) (he : Ev c M M1 e st H P W) (k : ∀ v H' K', Go M0 M1 H0 K0 H' K' → Go M M1 H K H' K' → P v H' → D.nx st K')
    (hs : ∀ env, swapsWith e none pos.line env = pure false := by intro _; rfl) : cS X (.Expr e pos) D st K :=
  cS_of (ps_expr cE_pe (hs _)) (he.run X hX K g.j _ (fun v H' K' g' p => k v H' K' (g.trans g') g' p) (fun Mx cls d H' K' g' w => er Mx cls d st H' K' (g.trans g') w))
theorem s_doc {x : Str} {j : Nat} (k : D.nx st K) : cS X (.Expr (.Constant (.str x) j p1) pos) D st K := cS_of ps_doc k
theorem s_if {B : Bool → Hp → Prop} (hX : Con c X) (g : Go M0 M H0 K0 H K) (er : Errs c M0 H0 K0 W) (ht : EvT c M M1 e st H B W)
    (k1 : ∀ H' K', Go M0 M1 H0 K0 H' K' → Go M M1 H K H' K' → B true H' → cB X b1 D st K') (k2 : ∀ H' K', Go M0 M1 H0 K0 H' K' → Go M M1 H K H' K' → B false H' → cB X b2 D st K') : cS X (.If e b1 b2 pos) D st K := by
  refine cS_of (ps_if cT_pt cB_pss cB_pss) ?_
  refine ht.run X hX K g.j _ (fun v H' K' g' p => ?_) (fun Mx cls d H' K' g' w => er Mx cls d st H' K' (g.trans g') w)
  cases v with
  | true => exact iteT (k1 H' K' (g.trans g') g' p)
  | false => exact iteF (k2 H' K' (g.trans g') g' p)
/-- .. the answer is known -/
theorem s_ifT (hX : Con c X) (g : Go M0 M H0 K0 H K) (er : Errs c M0 H0 K0 W) (ht : EvT c M M1 e st H (IsB true) W) (k1 : ∀ H' K', Go M0 M1 H0 K0 H' K' → Go M M1 H K H' K' → cB X b1 D st K') : cS X (.If e b1 b2 pos) D st K :=
  s_if hX g er ht (fun H' K' g' g'' _ => k1 H' K' g' g'') (fun _ _ _ _ z => nomatch z)
theorem s_ifF (hX : Con c X) (g : Go M0 M H0 K0 H K) (er : Errs c M0 H0 K0 W) (ht : EvT c M M1 e st H (IsB false) W) (k2 : ∀ H' K', Go M0 M1 H0 K0 H' K' → Go M M1 H K H' K' → cB X b2 D st K') : cS X (.If e b1 b2 pos) D st K :=
  s_if hX g er ht (fun _ _ _ _ z => nomatch z) (fun H' K' g' g'' _ => k2 H' K' g' g'')
/-- a, b = e1, e2 -/
theorem s_par {i j : Nat} {y : Str} {px py pt p2 : Pos} {kt k2 : Nat} {A : List V → Hp → Prop} (hX : Con c X) (g : Go M0 M H0 K0 H K) (er : Errs c M0 H0 K0 W) (hi : c.N[i]? = some x) (hj : c.N[j]? = some y) (hij : i ≠ j)
    (hx : c.sc.names.lookup x = some .local) (hy : c.sc.names.lookup y = some .local) (he : EvA c M M1 [a, b] st H A W)
    (k : ∀ vs H' K', Go M0 M1 H0 K0 H' K' → Go M M1 H K H' K' → A vs H' → ∃ v w, vs = [v, w] ∧ D.nx ((st.set i (some v)).set j (some w)) K')
    (hw : ∀ env : Env, env.blockKind = .function → env.kindOf x = some .local → env.kindOf y = some .local → swappedStores [.Tuple [.Name x px, .Name y py] kt pt] (.Tuple [a, b] k2 p2) env = pure (some [x, y])) :
    cS X (.Assign [.Tuple [.Name x px, .Name y py] kt pt] (.Tuple [a, b] k2 p2) pos) D st K := by
  have hX' := hX
  cases hX' with
  | mk _ k' Wx fa hr hc hp' ht hf hN hU =>
    intro pins s I
    have hk : X.env.blockKind = .function := by
      have z : X.env.scope.kind = .function := I.ok.kind
      unfold Env.blockKind
      rw [z]
      rfl
    exact cS_of (ps_par hc hN hi hj hij hx hy cA_pa (hw _ hk hx hy)) (he.run X hX K g.j _ (fun vs H' K' g' p => k vs H' K' (g.trans g') g' p) (fun Mx cls d H' K' g' w => er Mx cls d st H' K' (g.trans g') w)) pins s I
/-- x op= e -/
theorem s_aug {i : Nat} {op : Operator} {v : V} (hX : Con c X) (g : Go M0 M H0 K0 H K) (er : Errs c M0 H0 K0 W) (hi : StoreN c x i) (hv : st[i]? = some (some v)) (he : Ev c M M1 e st H P W) {P2 : VK}
    (ho : ∀ y H', Same H H' → P y H' → Op2 c M1 (inplaceOp op) v y H' P2) (k : ∀ v H' K', Go M0 M1 H0 K0 H' K' → Go M M1 H K H' K' → P2 v H' → D.nx (st.set i (some v)) K') : cS X (.AugAssign (.Name x p1) op e pos) D st K := by
  have hX' := hX
  cases hX' with
  | mk _ k' Wx fa hr hc hp' ht hf hN hU =>
    obtain ⟨h1, h2, h3⟩ := hi
    refine cS_of (ps_aug (ti := cO X (inplaceOp op)) hN h1 h2 cE_pe (fun pins s st _ x y v u _ I r1 r2 h => h pins s st v u I r1 r2) (h3.imp (fun z => hf z x) id)) ?_
    refine ⟨v, hv, he.run X hX K g.j _ (fun y H' K' g' p => ?_) (fun Mx cls d H' K' g' w => er Mx cls d st H' K' (g.trans g') w)⟩
    exact (ho y H' g'.b p).run X hX K' g'.j _ (fun z H2 K2 g2 p2 => k z H2 K2 (g.trans (g'.trans g2)) (g'.trans g2) p2)
/-- y = [..] on one line -/
theorem s_setLc {i j : Nat} (hX : Con c X) (g : Go M0 M H0 K0 H K) (er : Errs c M0 H0 K0 W) (hy : c.N[i]? = some x) (hyl : c.sc.names.lookup x = some .local)
    (hln : (p1.line == pos.line) = true) (hown : (scope.names.any fun (n, k) => n == x && (k == .local || k == .cell)) = false)
    (hi : EvI c M (Mi 0) tg iter st H n Y W) (hb : blkC c.N c.sc scope own = true) (htg : IsN (c.blk scope) tg j) (hn : n ≤ 1000000)
    (hw : ∀ x, wipe ((wipe st (own.map (·.2))).set j (some x)) (own.map (·.2)) = wipe st (own.map (·.2)))
    (I : Nat → List V → Hp → Prop) (hm : ∀ i acc H1 H2, Same H1 H2 → I i acc H1 → I i acc H2) (h0 : ∀ H', Same H H' → I 0 [] H')
    (hs : ∀ i x acc H', Same H H' → i < n → Y i x H' → I i acc H' → LcTurn (c.blk scope) (Mi i) (Mi (i + 1)) ifs elt ((wipe st (own.map (·.2))).set j (some x)) H' acc (I (i + 1)))
    (k : ∀ p acc H' K', Go M0 (Mi n) H0 K0 H' K' → Go M (Mi n) H K H' K' → H p = none → H' p = some (.lst acc) → acc.length ≤ n → I n acc H' → D.nx (st.set i (some (.ref p))) K') {p2 : Pos}
    (hf : ∀ env x, foldedSetIterable iter env x = pure x := by intro _ _; rfl) : cS X (.Assign [.Name x p1] (.ListComp elt [⟨tg, iter, ifs, 0⟩] scope pos) p2) D st K := by
  have hX' := hX
  cases hX' with
  | mk _ k' Wx fa hr hc hp' ht hf' hN hU =>
    intro pins s J0
    refine cS_of (ps_setLc hc hN hy hyl (sw_true J0.ok.kind hyl hln hown) cP_pi (blkOk_by hb) (fun s0 H0 C cl fp => isN_pg htg (con_blk hr hc hN hU s0 H0 C cl fp)) bT_pts bE_pe (hf _)) ?_ pins s J0
    exact lc_run hX hi hn hw I hm h0 hs g.j (fun D acc H' K' g' nw e l i => k D acc H' K' (g.trans g') g' nw e l i) (fun Mx cls d H' K' g' w => er Mx cls d st H' K' (g.trans g') w)
end
end Z

namespace Z
open PySem L2
open PyProof.Rows (subscriptTail)
section
variable {c : Ct} {X : Cx} {M0 M M1 M2 : Md} {Mi : Nat → Md} {H0 K0 H K : Hp} {st : St} {D : Ends} {W : XK} {P : VK} {e a b tg iter elt kx vx : Expr} {ifs : List Expr} {scope : Scope} {pos p1 : Pos} {n : Nat} {Y Y2 : Nat → VK} {own : List (Str × Nat)} {s : Stmt} {r b1 b2 body : List Stmt} {x : Str}
/-- what holds ahead of the i-th turn of a loop: the way from the entry, the word I over the slots, what is known for good, what stands -/
def Lp (M0 : Md) (H0 K0 : Hp) (Mi : Nat → Md) (H1 : Hp) (I : Nat → St → Hp → Hp → Prop) (i : Nat) : St → Hp → Prop := fun st K => ∃ H, Go M0 (Mi i) H0 K0 H K ∧ Same H1 H ∧ I i st H K
theorem s_for {j : Nat} (hX : Con c X) (g : Go M0 M H0 K0 H K) (er : Errs c M0 H0 K0 W) (hi : EvI c M (Mi 0) tg iter st H n Y W) (htg : IsN c tg j) (I : Nat → St → Hp → Hp → Prop)
    (h0 : ∀ H' K', Go M0 (Mi 0) H0 K0 H' K' → Go M (Mi 0) H K H' K' → I 0 st H' K')
    (hs : ∀ H1, Same H H1 → ∀ i v st' H' K', Go M0 (Mi i) H0 K0 H' K' → Same H1 H' → i < n → Y i v H' → I i st' H' K' →
      cB X body { D with nx := Lp M0 H0 K0 Mi H1 I (i + 1), ct := Lp M0 H0 K0 Mi H1 I (i + 1), bk := D.nx } (st'.set j (some v)) K')
    (hd : ∀ st' H' K', Go M0 (Mi n) H0 K0 H' K' → Same H H' → I n st' H' K' → D.nx st' K') (hf : ∀ env x, foldedSetIterable iter env x = pure x := by intro _ _; rfl) : cS X (.For tg iter body [] pos) D st K := by
  have hX' := hX
  cases hX' with
  | mk _ k' Wx fa hr hc hp' hth hf' hN hU =>
    refine cS_of (ps_for hp' hc cP_pi (isN_pg htg hX) cB_pss (hf _)) ?_
    refine hi.run X hX K g.j _ (fun Jt G Yh H1 K1 g1 wk hG hy => ?_) (fun Mx cls d H' K' g' w => er Mx cls d st H' K' (g.trans g') w)
    refine for_it wk (Lp M0 H0 K0 Mi H1 I) ⟨H1, g.trans g1, Same.refl H1, h0 H1 K1 (g.trans g1) g1⟩ ?_ ?_ ?_
    · rintro i st' K' _ ⟨H', g', s', _⟩
      exact hG H' K' s' g'.j.le
    · rintro i v st' Ka Kb hlt ⟨H', g', s', hI⟩ yy
      obtain ⟨eK, hY⟩ := hy i v H' Ka Kb hlt s' yy
      subst eK
      exact hs H1 g1.b i v st' H' _ g' s' hlt hY hI
    · rintro st' K' ⟨H', g', s', hI⟩
      exact hd st' H' K' g' (g1.b.trans s') hI
theorem s_for2 {i0 j : Nat} (hX : Con c X) (g : Go M0 M H0 K0 H K) (er : Errs c M0 H0 K0 W) (hi : EvI2 c M (Mi 0) tg iter st H n Y Y2 W) (htg : IsN2 c tg i0 j) (I : Nat → St → Hp → Hp → Prop)
    (h0 : ∀ H' K', Go M0 (Mi 0) H0 K0 H' K' → Go M (Mi 0) H K H' K' → I 0 st H' K')
    (hs : ∀ H1, Same H H1 → ∀ i v w st' H' K', Go M0 (Mi i) H0 K0 H' K' → Same H1 H' → i < n → Y i v H' → Y2 i w H' → I i st' H' K' →
      cB X body { D with nx := Lp M0 H0 K0 Mi H1 I (i + 1), ct := Lp M0 H0 K0 Mi H1 I (i + 1), bk := D.nx } ((st'.set i0 (some v)).set j (some w)) K')
    (ht : ∀ i st' H' K' T v w, K' T = none → I i st' H' K' → I i st' H' (upd K' T (.tup [v, w])))
    (hd : ∀ st' H' K', Go M0 (Mi n) H0 K0 H' K' → Same H H' → I n st' H' K' → D.nx st' K') (hf : ∀ env x, foldedSetIterable iter env x = pure x := by intro _ _; rfl) : cS X (.For tg iter body [] pos) D st K := by
  have hX' := hX
  cases hX' with
  | mk _ k' Wx fa hr hc hp' hth hf' hN hU =>
    refine cS_of (ps_for hp' hc cP_pi (isN2_pg htg hX) cB_pss (hf _)) ?_
    refine hi.run X hX K g.j _ (fun Jt G Yh H1 K1 g1 wk hG hy => ?_) (fun Mx cls d H' K' g' w => er Mx cls d st H' K' (g.trans g') w)
    refine for_it wk (Lp M0 H0 K0 Mi H1 I) ⟨H1, g.trans g1, Same.refl H1, h0 H1 K1 (g.trans g1) g1⟩ ?_ ?_ ?_
    · rintro i st' K' _ ⟨H', g', s', _⟩
      exact hG H' K' s' g'.j.le
    · rintro i v st' Ka Kb hlt ⟨H', g', s', hI⟩ yy
      obtain ⟨T, v1, v2, e1, e2, e3, hY, hY2⟩ := hy i v H' Ka Kb hlt s' yy
      subst e3
      refine ⟨T, [v1, v2], e1, .inl (.inl upd_same), rfl, v1, [v2], rfl, v2, [], rfl, rfl, ?_⟩
      exact hs H1 g1.b i v1 v2 st' H' _ (g'.trans (Go.newOwn g'.j e2)) s' hlt hY hY2 (ht i st' H' Ka T v1 v2 e2 hI)
    · rintro st' K' ⟨H', g', s', hI⟩
      exact hd st' H' K' g' (g1.b.trans s') hI
/-- while: I by a measure -/
theorem s_while {B : St → Hp → Hp → Bool → Hp → Prop} (hX : Con c X) (g : Go M0 M H0 K0 H K) (er : Errs c M0 H0 K0 W) (Mw : Nat → Md) (I : Nat → St → Hp → Hp → Prop) {m0 : Nat} (hm0 : Mw m0 = M) (h0 : I m0 st H K)
    (ht : ∀ m st' H' K', Go M0 (Mw m) H0 K0 H' K' → Same H H' → I m st' H' K' → EvT c (Mw m) (Mw m) e st' H' (B st' H' K') W)
    (hs : ∀ m st' H' K' H2 K2, Go M0 (Mw m) H0 K0 H' K' → Same H H' → I m st' H' K' → Go (Mw m) (Mw m) H' K' H2 K2 → B st' H' K' true H2 →
      cB X body { D with nx := fun st2 K2 => ∃ m', m' < m ∧ Lp M0 H0 K0 Mw H I m' st2 K2, ct := fun st2 K2 => ∃ m', m' < m ∧ Lp M0 H0 K0 Mw H I m' st2 K2, bk := D.nx } st' K2)
    (hd : ∀ m st' H' K' H2 K2, Go M0 (Mw m) H0 K0 H' K' → Same H H' → I m st' H' K' → Go (Mw m) (Mw m) H' K' H2 K2 → B st' H' K' false H2 → D.nx st' K2) : cS X (.While e body [] pos) D st K := by
  have hX' := hX
  cases hX' with
  | mk _ k' Wx fa hr hc hp' htk hf' hN hU =>
    refine cS_of (ps_while hp' cT_pt cB_pss) ?_
    refine ⟨Lp M0 H0 K0 Mw H I, ⟨m0, H, by rw [hm0]; exact g, Same.refl H, h0⟩, ?_⟩
    rintro m st' K' ⟨H', g', s', hI⟩
    refine (ht m st' H' K' g' s' hI).run X hX K' g'.j _ (fun v H2 K2 g2 p => ?_) (fun Mx cls d H2 K2 g2 w => er Mx cls d st' H2 K2 (g'.trans g2) w)
    cases v with
    | true =>
      refine iteT ⟨fun st2 K2 => ∃ m', m' < m ∧ Lp M0 H0 K0 Mw H I m' st2 K2, fun st2 K2 z => z, ?_⟩
      exact hs m st' H' K' H2 K2 g' s' hI g2 p
    | false => exact iteF (hd m st' H' K' H2 K2 g' s' hI g2 p)
/-- a store into a list of one's own, or of the mode: told at the heap that stands -/
theorem s_setItem (hX : Con c X) (g : Go M0 M H0 K0 H K) (er : Errs c M0 H0 K0 W) {P1 P2 : VK} (mo : Mono P) (mo2 : Mono P1) (hv : Ev c M M1 e st H P W) (ho : ∀ H', Same H H' → Ev c M1 M1 a st H' P1 W) (hi : ∀ H', Same H H' → Ev c M1 M1 b st H' P2 W)
    (k : ∀ v o i H' K', Go M0 M1 H0 K0 H' K' → Go M M1 H K H' K' → P v H' → P1 o H' → P2 i H' → rSetL o i v K' fun K2 => D.nx st K2)
    (ha : ∀ env v, assign (.Subscript a b p1) env v = (do
      let ov ← holding [v] (eval a env)
      let iv ← holding [v, ov] (eval b env)
      standAt p1
      holding [v, ov, iv] (setItem ov iv v)
      release [v, ov, iv] []) := by intro _ _; rfl) (hsw : ∀ env, swapsWithSole [.Subscript a b p1] e pos.line env = pure false := by intro _; rfl) (hst : ∀ env, swappedStores [.Subscript a b p1] e env = pure none := by intro _; rfl)
    (has : ∀ env, (assignEach [.Subscript a b p1] env).map (·.2) = [assign (.Subscript a b p1) env] := by intro _; rfl) : cS X (.Assign [.Subscript a b p1] e pos) D st K := by
  refine cS_of (ps_asg cE_pe (pg_sub cE_pe cE_pe set_list (ha _)) (hsw _) (hst _) (has _)) ?_
  refine hv.run X hX K g.j _ (fun v Ha Ka ga pa => ?_) (fun Mx cls d H' K' g' w => er Mx cls d st H' K' (g.trans g') w)
  refine (ho Ha ga.b).run X hX Ka ga.j _ (fun o Hb Kb gb pb => ?_) (fun Mx cls d H' K' g' w => er Mx cls d st H' K' (g.trans (ga.trans g')) w)
  refine (hi Hb (ga.b.trans gb.b)).run X hX Kb gb.j _ (fun i Hc Kc gc pc => ?_) (fun Mx cls d H' K' g' w => er Mx cls d st H' K' (g.trans (ga.trans (gb.trans g'))) w)
  have gg := ga.trans (gb.trans gc)
  exact k v o i Hc Kc (g.trans gg) gg (mo.mono _ _ _ (gb.b.trans gc.b) pa) (mo2.mono _ _ _ gc.b pb) pc
end

/-! ### a def -/
section
variable {P : Program} {w : World} {F : PySem.W.Frag} {mg : Str → Option Value} {base : Heap}
/-- a def's promise from its body -/
theorem fn_ok {x qual : Str} {st : Stmt} {f : Addr} {fd : FuncData} {N ps : List Str} {k : Nat} {pre : Pre} (Fn : Fun F x qual st f fd) (S : FnScope N ps (defScope st)) (len : ∀ M M' vs H P W, pre M M' vs H P W → vs.length = ps.length)
    (hb : ∀ (M M' : Md) (vs : List V) (H : Hp) (Pr : VK) (W : XK) (Wx : WX) (X : Cx) (K : Hp) (D : Ends), Con ⟨P, w, F, mg, base, N, defScope st, k, Wx, true⟩ X → J M H K → pre M M' vs H Pr W → Errs ⟨P, w, F, mg, base, N, defScope st, k, Wx, true⟩ M H K W →
      (∀ v H' K', Go M M' H K H' K' → Pr v H' → D.rt v K') → (∀ st' H' K', Go M M' H K H' K' → Pr .non H' → D.nx st' K') → cB X (defBody st) D (start N vs) K) :
    FnG P w F mg base (k + 1) f fd ps (spZ pre) := by
  refine fnG_of Fn S (fun vs K Q E h => ?_) (fun cdv A outer s K vs Q E hr hG h => ?_)
  · obtain ⟨M, M', H, P, W, _, h, _⟩ := h
    exact len _ _ _ _ _ _ h
  · obtain ⟨M, M', H, Pr, W, j, h, q, x⟩ := h
    refine ⟨_, cB_pss, ?_⟩
    refine hb M M' vs H Pr W (fun cls d _ H => E cls d H) _ K _ ?_ j h (fun Mx cls d st H' K' g w => x Mx cls d H' K' g w) (fun v H' K' g p => q v H' K' g p) (fun st' H' K' g p => q _ H' K' g p)
    exact Con.mk (cxOf (L2.CX P w) P w F mg base N qual (defScope st) f cdv A outer s K E) k _ true hr rfl (passes_of rfl) (takes_of rfl rfl rfl rfl) (fun _ _ => rfl) S.nd hG
end
end Z

namespace Z
open PySem L2 SX
open PyProof.Rows (subscriptTail)

section
variable {c : Ct} {M : Md} {H : Hp} {P : VK} {i j : Int} {a b l : List Nat} {x y : V} {xs ys : List V} {p q : Addr}

/-! ### ints -/
theorem o_addI : Op2 c M (binaryOp .Add) (.int i) (.int j) H (Is (.int (i + j))) := .mk fun X hX K jj Q k => cO_of op_add ⟨i, j, rfl, rfl, k _ H K (.refl jj) rfl⟩
theorem o_subI : Op2 c M (binaryOp .Sub) (.int i) (.int j) H (Is (.int (i - j))) := .mk fun X hX K jj Q k => cO_of op_sub ⟨i, j, rfl, rfl, k _ H K (.refl jj) rfl⟩
theorem o_mulI (h : CMulW i j) : Op2 c M (binaryOp .Mult) (.int i) (.int j) H (Is (.int (i * j))) := .mk fun X hX K jj Q k => cO_of op_mulW ⟨i, j, rfl, rfl, h, k _ H K (.refl jj) rfl⟩
theorem o_modI (h : 0 < j) : Op2 c M (binaryOp .Mod) (.int i) (.int j) H (Is (.int (i % j))) := .mk fun X hX K jj Q k => cO_of op_mod ⟨i, j, rfl, rfl, h, k _ H K (.refl jj) rfl⟩
theorem o_divI (h : CDivW i j) : Op2 c M (binaryOp .FloorDiv) (.int i) (.int j) H (Is (.int (i / j))) := .mk fun X hX K jj Q k => cO_of op_fdivW ⟨i, j, rfl, rfl, h, k _ H K (.refl jj) rfl⟩
theorem o_powI (h : CPow i j) : Op2 c M (binaryOp .Pow) (.int i) (.int j) H (Is (.int (i ^ j.toNat))) := .mk fun X hX K jj Q k => cO_of op_pow ⟨i, j, rfl, rfl, h, k _ H K (.refl jj) rfl⟩
theorem o_ltI : Op2 c M (compareOp .Lt) (.int i) (.int j) H (Is (.bl (decide (i < j)))) := .mk fun X hX K jj Q k => cO_of op_lt ⟨i, j, rfl, rfl, k _ H K (.refl jj) rfl⟩
theorem o_leI : Op2 c M (compareOp .LtE) (.int i) (.int j) H (Is (.bl (decide (i ≤ j)))) := .mk fun X hX K jj Q k => cO_of op_le ⟨i, j, rfl, rfl, k _ H K (.refl jj) rfl⟩
theorem o_gtI : Op2 c M (compareOp .Gt) (.int i) (.int j) H (Is (.bl (decide (j < i)))) := .mk fun X hX K jj Q k => cO_of op_gt ⟨i, j, rfl, rfl, k _ H K (.refl jj) rfl⟩
theorem o_geI : Op2 c M (compareOp .GtE) (.int i) (.int j) H (Is (.bl (decide (j ≤ i)))) := .mk fun X hX K jj Q k => cO_of op_ge ⟨i, j, rfl, rfl, k _ H K (.refl jj) rfl⟩
theorem o_iaddI : Op2 c M (inplaceOp .Add) (.int i) (.int j) H (Is (.int (i + j))) := .mk fun X hX K jj Q k => cO_of iop_add ⟨i, j, rfl, rfl, k _ H K (.refl jj) rfl⟩
theorem o_isubI : Op2 c M (inplaceOp .Sub) (.int i) (.int j) H (Is (.int (i - j))) := .mk fun X hX K jj Q k => cO_of iop_sub ⟨i, j, rfl, rfl, k _ H K (.refl jj) rfl⟩
theorem o_negI : Op1 c M (unaryOp .USub) (.int i) H (Is (.int (-i))) := .mk fun X hX K jj Q k => cU_of un_neg ⟨i, rfl, k _ H K (.refl jj) rfl⟩

/-! ### ==, !=, is -/
theorem o_eq (h : scal x y = true) : Op2 c M (compareOp .Eq) x y H (Is (.bl (decide (x = y)))) := .mk fun X hX K jj Q k => cO_of op_eq ⟨h, k _ H K (.refl jj) rfl⟩
theorem o_ne (h : scal x y = true) : Op2 c M (compareOp .NotEq) x y H (Is (.bl (!decide (x = y)))) := .mk fun X hX K jj Q k => cO_of op_ne ⟨h, k _ H K (.refl jj) rfl⟩
theorem dec_I : decide (V.int i = V.int j) = decide (i = j) := decide_eq_decide.mpr ⟨fun h => V.int.inj h, fun h => by rw [h]⟩
theorem dec_S : decide (V.str (S a) = V.str (S b)) = decide (a = b) := decide_eq_decide.mpr ⟨fun h => S_inj (V.str.inj h), fun h => by rw [h]⟩
theorem o_eqI : Op2 c M (compareOp .Eq) (.int i) (.int j) H (Is (.bl (decide (i = j)))) := dec_I (i := i) (j := j) ▸ o_eq rfl
theorem o_neI : Op2 c M (compareOp .NotEq) (.int i) (.int j) H (Is (.bl (!decide (i = j)))) := dec_I (i := i) (j := j) ▸ o_ne rfl
theorem o_eqS : Op2 c M (compareOp .Eq) (.str (S a)) (.str (S b)) H (Is (.bl (decide (a = b)))) := dec_S (a := a) (b := b) ▸ o_eq rfl
theorem o_neS : Op2 c M (compareOp .NotEq) (.str (S a)) (.str (S b)) H (Is (.bl (!decide (a = b)))) := dec_S (a := a) (b := b) ▸ o_ne rfl
theorem o_isN : Op2 c M (compareOp .Is) x .non H (Is (.bl (decide (x = .non)))) := .mk fun X hX K jj Q k => cO_of op_isN ⟨rfl, k _ H K (.refl jj) rfl⟩
theorem o_notN : Op2 c M (compareOp .IsNot) x .non H (Is (.bl (!decide (x = .non)))) := .mk fun X hX K jj Q k => cO_of op_notN ⟨rfl, k _ H K (.refl jj) rfl⟩
theorem o_isB {a b : Bool} : Op2 c M (compareOp .Is) (.bl a) (.bl b) H (Is (.bl (decide (a = b)))) := .mk fun X hX K jj Q k => cO_of op_isBl ⟨a, b, rfl, rfl, k _ H K (.refl jj) rfl⟩
theorem o_notB {a b : Bool} : Op2 c M (compareOp .IsNot) (.bl a) (.bl b) H (Is (.bl (!decide (a = b)))) := .mk fun X hX K jj Q k => cO_of op_notBl ⟨a, b, rfl, rfl, k _ H K (.refl jj) rfl⟩

/-! ### texts -/
theorem o_addS (h : a.length + b.length ≤ 16777216) : Op2 c M (binaryOp .Add) (.str (S a)) (.str (S b)) H (Is (.str (S (a ++ b)))) := .mk fun X hX K jj Q k =>
  cO_of op_add_str ⟨S a, S b, rfl, rfl, by rw [S_len, S_len, sizeLine_eq]; exact h, by rw [S_cat]; exact k _ H K (.refl jj) rfl⟩
theorem o_inS {z : Nat} : Op2 c M (compareOp .In) (.str ⟨#[z]⟩) (.str (S b)) H (Is (.bl (decide (z ∈ b)))) := .mk fun X hX K jj Q k => cO_of op_in_sign ⟨z, S b, rfl, rfl, k _ H K (.refl jj) (by simp [S])⟩
theorem o_ltS : Op2 c M (compareOp .Lt) (.str (S a)) (.str (S b)) H (Is (.bl (decide (a < b)))) := .mk fun X hX K jj Q k => cO_of op_lt_str ⟨S a, S b, rfl, rfl, k _ H K (.refl jj) (by simp [S])⟩
theorem o_gtS : Op2 c M (compareOp .Gt) (.str (S a)) (.str (S b)) H (Is (.bl (decide (b < a)))) := .mk fun X hX K jj Q k => cO_of op_gt_str ⟨S a, S b, rfl, rfl, k _ H K (.refl jj) (by simp [S])⟩
theorem mul_S {n : Int} : Txt.mul (S a) n = S (List.replicate n.toNat a).flatten := by
  have f0 : ∀ (m : Nat) (acc : Array Nat), (List.replicate m (S a).cps).foldl (· ++ ·) acc = (acc.toList ++ (List.replicate m a).flatten).toArray := by
    intro m
    induction m with
    | zero => intro acc; simp
    | succ m ih => intro acc; rw [List.replicate_succ, List.foldl_cons, ih]; simp [List.replicate_succ, S]
  unfold Txt.mul
  by_cases h1 : n < 1
  · rw [if_pos h1, show n.toNat = 0 by omega]
    rfl
  · rw [if_neg h1]
    by_cases h2 : (n == 1 || (S a).length == 0) = true
    · rw [if_pos h2]
      rw [Bool.or_eq_true] at h2
      rcases h2 with h2 | h2
      · have : n = 1 := by simpa using h2
        subst this
        simp [S]
      · rw [S_len] at h2
        have : a = [] := by simpa using h2
        subst this
        simp [S]
    · rw [if_neg h2, f0]
      simp [S]
theorem o_mulS {n : Int} (h1 : -1000000 ≤ n) (h2 : n ≤ 1000000) (h : a.length * n.toNat ≤ 16777216) : Op2 c M (binaryOp .Mult) (.str (S a)) (.int n) H (Is (.str (S (List.replicate n.toNat a).flatten))) := .mk fun X hX K jj Q k => by
  intro pins s st v u I rx ry
  obtain ⟨t, rfl⟩ := rx
  obtain ⟨t', rfl⟩ := ry
  refine SB.mul ⟨?_, fun h3 _ => ?_, fun h3 _ => ?_⟩ fun t2 k2 => ⟨.str _, K, I.tok k2, ⟨t2, rfl⟩, by rw [mul_S]; exact k _ H K (.refl jj) rfl⟩
  · rw [decide_eq_false (by omega), decide_eq_false (by omega)]
    rfl
  · rw [S_len]
    have e1 : (a.length : Int) * n ≤ 16777216 := by
      have : ((a.length * n.toNat : Nat) : Int) ≤ 16777216 := Int.ofNat_le.mpr h
      rw [Int.natCast_mul, Int.toNat_of_nonneg (by omega)] at this
      exact this
    have e2 : (a.length : Int) ≤ (2 ^ 63 - 1) / n := (Int.le_ediv_iff_mul_le (by omega)).mpr (by omega)
    omega
  · rw [S_len]
    show Builtin.Str.tooLong _ = false
    unfold Builtin.Str.tooLong
    exact decide_eq_false (by rw [sizeLine_eq]; omega)

/-! ### lists -/
theorem o_cat (hx : H p = some (.lst xs)) (hy : H q = some (.lst ys)) (h : xs.length + ys.length ≤ 16777216) : Op2 c M (binaryOp .Add) (.ref p) (.ref q) H (IsL (xs ++ ys)) := .mk fun X hX K jj Q k =>
  cO_of op_cat ⟨p, q, xs, ys, rfl, rfl, jj.le.lst hx, jj.le.lst hy, by rw [sizeLine_eq]; exact h, fun r hr => k _ _ _ (Go.new jj hr) ⟨r, rfl, upd_same⟩⟩
theorem o_rep {n : Int} (hx : H p = some (.lst xs)) (h1 : -1000000 ≤ n) (h2 : n ≤ 1000000) (h : xs.length * n.toNat ≤ 16777216) : Op2 c M (binaryOp .Mult) (.ref p) (.int n) H (IsL (List.replicate n.toNat xs).flatten) := .mk fun X hX K jj Q k =>
  cO_of op_rep ⟨p, n, xs, rfl, rfl, jj.le.lst hx, by omega, by omega, by rw [sizeLine_eq]; exact h, fun r hr => k _ _ _ (Go.new jj hr) ⟨r, rfl, upd_same⟩⟩
theorem sq_in {F : PySem.W.Frag} {H K : Hp} (l : Le H K) (h : SqL F H p xs ∨ SqT F H p xs) : SqL F K p xs ∨ SqT F K p xs := h.imp (le_sql l) (le_sqt l)
theorem o_inL (h : SqL c.K H p xs ∨ SqT c.K H p xs) (hx : flatV x = true) (hf : xs.all flatV = true) : Op2 c M (compareOp .In) x (.ref p) H (Is (.bl (inV x xs))) := .mk fun X hX K jj Q k => by
  cases hX
  exact cO_of op_in_seq ⟨p, xs, rfl, sq_in jj.le h, hx, hf, k _ H K (.refl jj) rfl⟩
theorem o_notInL (h : SqL c.K H p xs ∨ SqT c.K H p xs) (hx : flatV x = true) (hf : xs.all flatV = true) : Op2 c M (compareOp .NotIn) x (.ref p) H (Is (.bl (!inV x xs))) := .mk fun X hX K jj Q k => by
  cases hX
  exact cO_of op_notIn_seq ⟨p, xs, rfl, sq_in jj.le h, hx, hf, k _ H K (.refl jj) rfl⟩

/-! ### subscripts, slices -/
theorem i_list {v : V} (h : SqL c.K H p xs) (ha : atI xs i = some v) : OpI c M (.ref p) (.int i) H (Is v) := .mk fun X hX K jj Q k => by
  cases hX
  exact cI_of ix_list ⟨p, xs, i, v, rfl, rfl, le_sql jj.le h, ha, k _ H K (.refl jj) rfl⟩
theorem i_tup {v : V} (h : SqT c.K H p xs) (ha : atI xs i = some v) : OpI c M (.ref p) (.int i) H (Is v) := .mk fun X hX K jj Q k => by
  cases hX
  exact cI_of ix_tup ⟨p, xs, i, v, rfl, rfl, le_sqt jj.le h, ha, k _ H K (.refl jj) rfl⟩
theorem i_str {z : Nat} (hz : a.length ≤ 16777216) (ha : atI a i = some z) : OpI c M (.str (S a)) (.int i) H (Is (.str (S [z]))) := .mk fun X hX K jj Q k =>
  cI_of ix_str ⟨S a, i, z, rfl, rfl, by rw [S_len, sizeLine_eq]; exact hz, by simpa [S] using ha, k _ H K (.refl jj) rfl⟩
theorem l_list {lo hi : Option Int} (h : SqL c.K H p xs) : OpL c M (.ref p) lo hi H (IsL (cutV xs lo hi)) := .mk fun X hX K jj Q k => by
  cases hX
  exact cL_of sl_list ⟨p, xs, rfl, le_sql jj.le h, fun r hr => k _ _ _ (Go.new jj hr) ⟨r, rfl, upd_same⟩⟩
theorem l_tup {lo hi : Option Int} (h : SqT c.K H p xs) (hw : ¬ (HT.sIx xs.length 0 lo = 0 ∧ HT.sIx xs.length xs.length hi = xs.length)) : OpL c M (.ref p) lo hi H (IsT (cutV xs lo hi)) := .mk fun X hX K jj Q k => by
  cases hX
  exact cL_of sl_tup ⟨p, xs, rfl, le_sqt jj.le h, hw, fun r hr => k _ _ _ (Go.new jj hr) ⟨r, rfl, upd_same⟩⟩
/-- a[lo:hi] of a text's codes -/
def cutN (a : List Nat) (lo hi : Option Int) : List Nat := (a.drop (HT.sIx a.length 0 lo)).take (HT.sIx a.length a.length hi - HT.sIx a.length 0 lo)
theorem cutS_S {lo hi : Option Int} : cutS (S a) lo hi = S (cutN a lo hi) := by
  unfold cutS cutN
  rw [S_len]
theorem l_str {lo hi : Option Int} (hz : a.length ≤ 16777216) : OpL c M (.str (S a)) lo hi H (Is (.str (S (cutN a lo hi)))) := .mk fun X hX K jj Q k =>
  cL_of sl_str ⟨S a, rfl, by rw [S_len, sizeLine_eq]; exact hz, by rw [cutS_S]; exact k _ H K (.refl jj) rfl⟩

/-! ### built-in functions -/
theorem f_lenS (hz : a.length ≤ 16777216) : OpF c M (.builtin "len") [.str (S a)] H (Is (.int (a.length : Int))) := .mk fun X hX K jj Q k => cF_of call_len_str ⟨S a, rfl, by rw [S_len, sizeLine_eq]; exact hz, by rw [S_len]; exact k _ H K (.refl jj) rfl⟩
theorem f_lenL (h : SqL c.K H p xs ∨ SqT c.K H p xs) : OpF c M (.builtin "len") [.ref p] H (Is (.int (xs.length : Int))) := .mk fun X hX K jj Q k => by
  cases hX
  exact cF_of call_len_seq ⟨p, xs, rfl, sq_in jj.le h, k _ H K (.refl jj) rfl⟩
theorem f_min2 : OpF c M (.builtin "min") [.int i, .int j] H (Is (.int (min i j))) := .mk fun X hX K jj Q k => by
  cases hX with
  | mk _ k' Wx fa hr hc hp' htk hf' hN hU =>
    refine cF_of (call_min2 hc) ⟨i, j, rfl, k _ H K (.refl jj) ?_⟩
    by_cases hlt : j < i
    · rw [if_pos hlt, show min i j = j by omega]
    · rw [if_neg hlt, show min i j = i by omega]
theorem f_max2 : OpF c M (.builtin "max") [.int i, .int j] H (Is (.int (max i j))) := .mk fun X hX K jj Q k => by
  cases hX with
  | mk _ k' Wx fa hr hc hp' htk hf' hN hU =>
    refine cF_of (call_max2 hc) ⟨i, j, rfl, k _ H K (.refl jj) ?_⟩
    by_cases hlt : j > i
    · rw [if_pos hlt, show max i j = j by omega]
    · rw [if_neg hlt, show max i j = i by omega]
theorem f_abs : OpF c M (.builtin "abs") [.int i] H (Is (.int (i.natAbs : Int))) := .mk fun X hX K jj Q k => by
  refine cF_of call_abs ⟨i, rfl, k _ H K (.refl jj) ?_⟩
  by_cases hlt : i < 0
  · rw [if_pos hlt, show (i.natAbs : Int) = -i by omega]
  · rw [if_neg hlt, show (i.natAbs : Int) = i by omega]
theorem f_all {bs : List Bool} (h : SqL c.K H p (bs.map V.bl)) : OpF c M (.builtin "all") [.ref p] H (Is (.bl (bs.all id))) := .mk fun X hX K jj Q k => by
  cases hX with
  | mk _ k' Wx fa hr hc hp' htk hf' hN hU => exact cF_of (cr_all hc) ⟨p, bs, rfl, le_sql jj.le h, k _ H K (.refl jj) rfl⟩
theorem f_sum {ns : List Int} (h : SqL c.K H p (ns.map V.int)) : OpF c M (.builtin "sum") [.ref p] H (Is (.int ns.sum)) := .mk fun X hX K jj Q k => by
  cases hX with
  | mk _ k' Wx fa hr hc hp' htk hf' hN hU => exact cF_of (cr_sum hc) ⟨p, ns, rfl, le_sql jj.le h, k _ H K (.refl jj) rfl⟩
theorem f_intB {b : Bool} : OpF c M (.type "int") [.bl b] H (Is (.int (if b then 1 else 0))) := .mk fun X hX K jj Q k => cF_of call_int1 (.inr ⟨b, rfl, k _ H K (.refl jj) rfl⟩)
theorem f_strI (h : i.natAbs.log2 < 1920) : OpF c M (.type "str") [.int i] H (Is (.str (toString i))) := .mk fun X hX K jj Q k => cF_of call_str_int ⟨i, rfl, h, k _ H K (.refl jj) rfl⟩
theorem f_listL (h : SqL c.K H p xs ∨ SqT c.K H p xs) : OpF c M (.type "list") [.ref p] H (IsL xs) := .mk fun X hX K jj Q k => by
  cases hX
  exact cF_of call_list_of ⟨p, xs, rfl, sq_in jj.le h, fun r hr => k _ _ _ (Go.new jj hr) ⟨r, rfl, upd_same⟩⟩
/-- what a value's class is -/
inductive TyZ (F : PySem.W.Frag) (H : Hp) : V → String → Prop
  | non : TyZ F H .non "NoneType"
  | bl (b : Bool) : TyZ F H (.bl b) "bool"
  | int (i : Int) : TyZ F H (.int i) "int"
  | str (x : Str) : TyZ F H (.str x) "str"
  | lst {a : Addr} {xs : List V} (e : H a = some (.lst xs)) : TyZ F H (.ref a) "list"
  | tup {a : Addr} {xs : List V} (e : H a = some (.tup xs)) : TyZ F H (.ref a) "tuple"
  | dK {a : Addr} {kvs : List (Key × V)} (e : H a = some (.dK kvs)) : TyZ F H (.ref a) "dict"
theorem TyZ.tyx {F : PySem.W.Frag} {H K : Hp} {v : V} {t : String} (l : Le H K) (h : TyZ F H v t) : TyX F K v (.type t) := by
  cases h with
  | non => exact .base .non
  | bl b => exact .base (.bl b)
  | int i => exact .base (.int i)
  | str x => exact .base (.str x)
  | lst e => exact .base (.lst (l.lst e))
  | tup e => exact .base (.tup (l.tup e))
  | dK e =>
    rcases l _ _ e with q | ⟨kvs, ob, e2, q⟩
    · exact .base (.dK q)
    · exact .fDict q
theorem f_isi {v : V} {t u : String} {b : Bool} (h : TyZ c.K H v t) (e : kitB t u = some b) : OpF c M (.builtin "isinstance") [v, .ty u] H (Is (.bl b)) := .mk fun X hX K jj Q k => by
  cases hX
  exact cF_of call_isi ⟨v, .ty u, .type t, .type u, b, rfl, .ty u, h.tyx jj.le, kit_ty e, k _ H K (.refl jj) rfl⟩

/-! ### methods -/
theorem m_join {parts : List (List Nat)} (h : SqL c.K H p (parts.map fun z => V.str (S z)) ∨ SqT c.K H p (parts.map fun z => V.str (S z))) (hz : (parts.map (·.length)).sum + parts.length * a.length ≤ 16777216) :
    OpM c M "str.join" (.str (S a)) [.ref p] H (Is (.str (S (TL.joinL a parts)))) := .mk fun X hX K jj Q k => by
  have e1 : (parts.map fun z => V.str (S z)) = (parts.map S).map V.str := by rw [List.map_map]; rfl
  rw [e1] at h
  cases hX
  refine cM_of mt_join ⟨S a, p, parts.map S, rfl, rfl, sq_in jj.le h, ?_, ?_⟩
  · rw [lens, List.length_map, S_len]
    exact hz
  · rw [join_S]
    exact k _ H K (.refl jj) rfl
end
end Z

namespace Z
open PySem L2 SX
open PyProof.Rows (subscriptTail)
/-- a local name's value -/
def lk (N : List Str) (st : St) (x : Str) : Option V := if N.idxOf x < N.length then (match st[N.idxOf x]? with | some (some v) => some v | _ => none) else none
def visB (sc : Scope) (x : Str) : Bool := match sc.names.lookup x with | some .local => true | some .cell => true | some .free => true | _ => false
theorem visB_vis {sc : Scope} {x : Str} (h : visB sc x = true) : Vis sc x := by
  unfold visB at h
  unfold Vis
  split at h
  · next e => exact .inl e
  · next e => exact .inr (.inl e)
  · next e => exact .inr (.inr e)
  · cases h
/-- a module's name -/
def GlV (mg : Str → Option Value) (x : Str) (v : V) : Prop := ∃ u, mg x = some u ∧ RelV v u
abbrev IsA (vs : List V) : List V → Hp → Prop := fun ws _ => ws = vs
section
variable {c : Ct} {M M1 M2 : Md} {st : St} {H : Hp} {P P1 P2 : VK} {W : XK} {e a b : Expr} {es : List Expr} {pos p : Pos} {v : V} {vs : List V}
theorem ev_nm {x : Str} (h : lk c.N st x = some v) (hv : visB c.sc x = true) (hd : (x == ("__debug__" : Str)) = false := by decide) (hcd : (x == ("__classdict__" : Str)) = false := by decide) : Ev c M M (.Name x pos) st H (Is v) W := by
  unfold lk at h
  split at h
  · next hl =>
    refine ev_var (i := c.N.idxOf x) ?_ ?_ (visB_vis hv) hd hcd
    · rw [List.getElem?_eq_getElem hl, List.getElem_idxOf]
    · split at h
      · next e => rw [e, h]
      · cases h
  · cases h
theorem ev_gl {x : Str} (hg : GlS c x) (h : GlV c.mg x v) (hd : (x == ("__debug__" : Str)) = false := by decide) : Ev c M M (.Name x pos) st H (Is v) W := by
  obtain ⟨u, hm, r⟩ := h
  exact ev_glob hg hm r hd
theorem ev_ty {x : Str} {n : String} (hg : GlS c x) (hm : c.mg x = none) (hv : bootBuiltins x = some (.type n)) (hn : x ≠ "__name__" := by decide) (hd : (x == ("__debug__" : Str)) = false := by decide) : Ev c M M (.Name x pos) st H (Is (.ty n)) W :=
  ev_bltn hg hm hv rfl hn hd
theorem ea_nilI : EvA c M M [] st H (IsA []) W := ea_nil
theorem ea_consI (ha : Ev c M M1 a st H (Is v) W) (hb : ∀ H', Same H H' → EvA c M1 M2 es st H' (IsA vs) W)
    (hs : ∀ env, starEach (a :: es) env = (false, eval a env) :: starEach es env := by intro _; rfl) : EvA c M M2 (a :: es) st H (IsA (v :: vs)) W :=
  (ea_cons ha hb inferInstance hs).imp fun ws H' _ ⟨x, r, e, e1, e2⟩ => by rw [e, e1, e2]
/-- a list written of values that are known -/
theorem ev_lstI (h : EvA c M M1 es st H (IsA vs) W) (hl : vs.length ≤ 16777216 := by exact Nat.le_of_ble_eq_true rfl) : Ev c M M1 (.List es pos) st H (IsL vs) W :=
  ev_lst h fun ws H' _ e => by
    rw [show ws = vs from e]
    exact ⟨by rw [sizeLine_eq]; exact hl, fun p _ => ⟨p, rfl, upd_same⟩⟩
theorem ev_tupI {k : Nat} (h : EvA c M M1 es st H (IsA vs) W) (hl : vs.length ≤ 16777216 := by exact Nat.le_of_ble_eq_true rfl) : Ev c M M1 (.Tuple es k pos) st H (IsT vs) W :=
  ev_tup h fun ws H' _ e => by
    rw [show ws = vs from e]
    exact ⟨by rw [sizeLine_eq]; exact hl, fun p _ => ⟨p, rfl, upd_same⟩⟩
/-- a comprehension whose elements are told by their place, kept where t says so -/
def kept (n : Nat) (t : Nat → Bool) (f : Nat → V) : List V := ((List.range n).filter t).map f
theorem kept_all (n : Nat) (f : Nat → V) : kept n (fun _ => true) f = (List.range n).map f := by
  unfold kept
  rw [List.filter_eq_self.mpr (fun _ _ => rfl)]
theorem kept_succ (n : Nat) (t : Nat → Bool) (f : Nat → V) : kept (n + 1) t f = if t n = true then kept n t f ++ [f n] else kept n t f := by
  unfold kept
  rw [List.range_succ, List.filter_append, List.map_append]
  by_cases h : t n = true
  · rw [if_pos h, List.filter_cons_of_pos h, List.filter_nil]
    rfl
  · rw [if_neg h, List.filter_cons_of_neg h, List.filter_nil]
    simp
theorem ev_lcF {tg iter elt : Expr} {ifs : List Expr} {scope : Scope} {n : Nat} {Y : Nat → VK} {own : List (Str × Nat)} {j : Nat} (hi : EvI c M M1 tg iter st H n Y W) (hb : blkC c.N c.sc scope own = true) (htg : IsN (c.blk scope) tg j)
    (hw : ∀ x, wipe ((wipe st (own.map (·.2))).set j (some x)) (own.map (·.2)) = wipe st (own.map (·.2))) (hn : n ≤ 1000000) (t : Nat → Bool) (f : Nat → V)
    (hs : ∀ i x H', Same H H' → i < n → Y i x H' → match ifs with
      | [] => t i = true ∧ Ev (c.blk scope) M1 M1 elt ((wipe st (own.map (·.2))).set j (some x)) H' (Is (f i)) W0
      | a :: r => EvTs (c.blk scope) M1 M1 (a :: r) ((wipe st (own.map (·.2))).set j (some x)) H' (IsB (t i)) W0 ∧ (t i = true → ∀ H'', Same H' H'' → Ev (c.blk scope) M1 M1 elt ((wipe st (own.map (·.2))).set j (some x)) H'' (Is (f i)) W0))
    (hf : ∀ env x, foldedSetIterable iter env x = pure x := by intro _ _; rfl) : Ev c M M1 (.ListComp elt [⟨tg, iter, ifs, 0⟩] scope pos) st H (IsL (kept n t f)) W := by
  refine ev_lc (Mi := fun _ => M1) hi hb htg hn hw (fun i acc _ => acc = kept i t f) (fun _ _ _ _ _ h => h) (fun _ _ => rfl) (fun i x acc H' s hlt hY hI => ?_) (fun p acc H' _ _ e _ hI => ⟨p, rfl, by rw [e, hI]⟩) hf
  have h := hs i x H' s hlt hY
  subst hI
  cases ifs with
  | nil =>
    refine h.2.imp fun v H'' _ e => ?_
    rw [kept_succ, if_pos h.1, e]
  | cons a r =>
    refine ⟨M1, IsB (t i), h.1, fun H'' _ e => ⟨.refl _, ?_⟩, fun H'' s2 e => (h.2 e.symm H'' s2).imp fun v H3 _ e3 => ?_⟩
    · rw [kept_succ, if_neg (by rw [← show false = t i from e]; decide)]
    · rw [kept_succ, if_pos (show t i = true from e.symm), e3]
end
/-- the letters -/
def LET : List Nat := [97, 98, 99, 100, 101, 102, 103, 104, 105, 106, 107, 108, 109, 110, 111, 112, 113, 114, 115, 116, 117, 118, 119, 120, 121, 122]
def isLet (k : Nat) : Bool := decide (97 ≤ k) && decide (k ≤ 122)
theorem mem_LET (k : Nat) : decide (k ∈ LET) = isLet k := by
  unfold isLet LET
  rw [Bool.eq_iff_iff, Bool.and_eq_true, decide_eq_true_eq, decide_eq_true_eq, decide_eq_true_eq]
  simp only [List.mem_cons, List.not_mem_nil, or_false]
  omega
theorem LET_str : ("abcdefghijklmnopqrstuvwxyz" : Str) = S LET := by decide +kernel
end Z
namespace Z
open PySem L2 SX
theorem bt_len : bootBuiltins "len" = some (.builtin "len") := by decide +kernel
theorem bt_min : bootBuiltins "min" = some (.builtin "min") := by decide +kernel
theorem bt_max : bootBuiltins "max" = some (.builtin "max") := by decide +kernel
theorem bt_abs : bootBuiltins "abs" = some (.builtin "abs") := by decide +kernel
theorem bt_all : bootBuiltins "all" = some (.builtin "all") := by decide +kernel
theorem bt_sum : bootBuiltins "sum" = some (.builtin "sum") := by decide +kernel
theorem bt_sorted : bootBuiltins "sorted" = some (.builtin "sorted") := by decide +kernel
theorem bt_repr : bootBuiltins "repr" = some (.builtin "repr") := by decide +kernel
theorem bt_isinstance : bootBuiltins "isinstance" = some (.builtin "isinstance") := by decide +kernel
theorem bt_int : bootBuiltins "int" = some (.type "int") := by decide +kernel
theorem bt_str : bootBuiltins "str" = some (.type "str") := by decide +kernel
theorem bt_bool : bootBuiltins "bool" = some (.type "bool") := by decide +kernel
theorem bt_list : bootBuiltins "list" = some (.type "list") := by decide +kernel
theorem bt_tuple : bootBuiltins "tuple" = some (.type "tuple") := by decide +kernel
theorem bt_dict : bootBuiltins "dict" = some (.type "dict") := by decide +kernel
theorem bt_set : bootBuiltins "set" = some (.type "set") := by decide +kernel
/-- a def of the text as the top left it -/
def DfN (F : PySem.W.Frag) (mg : Str → Option Value) (x : Str) (ps : List Str) (st : Stmt) : Prop := ∃ f fd, mg x = some (.ref f) ∧ Fun F x x st f fd ∧ Binds F fd ps []
/-- .. that keeps its promise -/
def Df (P : Program) (w : World) (F : PySem.W.Frag) (mg : Str → Option Value) (base : Heap) (x : Str) (ps : List Str) (k : Nat) (pre : Pre) : Prop :=
  ∃ f fd, mg x = some (.ref f) ∧ PySem.W.keepIn F (.ref f) = true ∧ Binds F fd ps [] ∧ FnG P w F mg base k f fd ps (spZ pre)
theorem df_ok {P : Program} {w : World} {F : PySem.W.Frag} {mg : Str → Option Value} {base : Heap} {x : Str} {st : Stmt} {N ps : List Str} {k : Nat} {pre : Pre} (d : DfN F mg x ps st) (S : FnScope N ps (defScope st)) (len : ∀ M M' vs H P W, pre M M' vs H P W → vs.length = ps.length)
    (hb : ∀ (M M' : Md) (vs : List V) (H : Hp) (Pr : VK) (W : XK) (Wx : WX) (X : Cx) (K : Hp) (D : Ends), Con ⟨P, w, F, mg, base, N, defScope st, k, Wx, true⟩ X → J M H K → pre M M' vs H Pr W → Errs ⟨P, w, F, mg, base, N, defScope st, k, Wx, true⟩ M H K W →
      (∀ v H' K', Go M M' H K H' K' → Pr v H' → D.rt v K') → (∀ st' H' K', Go M M' H K H' K' → Pr .non H' → D.nx st' K') → cB X (defBody st) D (start N vs) K) : Df P w F mg base x ps (k + 1) pre := by
  obtain ⟨f, fd, h1, h2, h3⟩ := d
  exact ⟨f, fd, h1, h2.kp, h3, fn_ok h2 S len hb⟩
theorem ev_own {c : Ct} {M M1 M2 : Md} {st : St} {H : Hp} {P : VK} {W : XK} {a : Expr} {es : List Expr} {pos p : Pos} {x : Str} {ps : List Str} {k : Nat} {pre : Pre} {A : List V → Hp → Prop} (d : Df c.P c.w c.K c.mg c.base x ps k pre) (hk : k ≤ c.k) (hg : GlS c x) (ha : EvA c M M1 (a :: es) st H A W)
    (hp : ∀ vs H', Same H H' → A vs H' → ∃ P' W', pre M1 M2 vs H' P' W' ∧ (∀ v H'', Same H' H'' → P' v H'' → P v H'') ∧ (∀ cls d H'', Same H' H'' → W' cls d H'' → W cls d H'')) (hdb : (x == ("__debug__" : Str)) = false := by decide)
    (he : ∀ env, starEach (a :: es) env = (false, eval a env) :: starEach es env := by intro _; rfl) (hpl : ∀ pos env, (backTo pos (starEach es env)).any (·.1) = false := by intro _ _; rfl) :
    Ev c M M2 (.Call (.Name x p) (a :: es) [] pos) st H P W := by
  obtain ⟨f, fd, h1, h2, h3, h4⟩ := d
  exact ev_call h4 hk hg h1 h2 h3 ha hp hdb he hpl
/-- .. whose promise is one value of the arguments, and nothing is raised -/
theorem ev_ownP {c : Ct} {M M1 : Md} {st : St} {H : Hp} {P : VK} {W : XK} {a : Expr} {es : List Expr} {pos p : Pos} {x : Str} {ps : List Str} {k : Nat} {pre : Pre} {vs : List V} (d : Df c.P c.w c.K c.mg c.base x ps k pre) (hk : k ≤ c.k) (hg : GlS c x) (ha : EvA c M M1 (a :: es) st H (IsA vs) W)
    (hp : ∀ H', Same H H' → pre M1 M1 vs H' P W0) (hdb : (x == ("__debug__" : Str)) = false := by decide)
    (he : ∀ env, starEach (a :: es) env = (false, eval a env) :: starEach es env := by intro _; rfl) (hpl : ∀ pos env, (backTo pos (starEach es env)).any (·.1) = false := by intro _ _; rfl) :
    Ev c M M1 (.Call (.Name x p) (a :: es) [] pos) st H P W :=
  ev_own d hk hg ha (fun ws H' s e => ⟨P, W0, by rw [show ws = vs from e]; exact hp H' s, fun _ _ _ h => h, fun _ _ _ _ h => h.elim⟩) hdb he hpl
end Z

namespace Z
open PySem PySem.Spec PyProof.Rows L2
/-- what the caller of the law is told at the end -/
abbrev LawEnd (s1 : Shared) : Result → Shared → Prop := fun r s2 => r = .ok (.ret (.bool true)) ∧ OldK s1.heap s2.heap ∧ s2.os = s1.os ∧ AllBare s2.gens
section
variable {P : Program} {w : World} {F : PySem.W.Frag} {mg mb : Str → Option Value} {k : Nat} {fa a : Addr} {fd : FuncData} {x : Str} {sp : Sp} {s1 : Shared} {vs : List Value} {ns : List Int} {H : Hp}
/-- the law's promise at a heap in which the script alone may be tracked -/
theorem law_in (inn : F.In s1.heap) (hns : s1.heap.Ns mainGlobals mg) (hb : s1.heap.Ns builtinsNs mb) (hbb : ∀ x : Str, x ≠ "__name__" → mb x = bootBuiltins x) (lim : s1.heap.NoLimit) (bare : s1.gens = #[])
    (ha : s1.heap.get? a = some { cls := .type "list", data := .seq vs.toArray }) (hr : Room k callerA) (G : ∀ base : Heap, F.In base → base.Ns mainGlobals mg → FnG P w F mg base k fa fd [x] sp)
    (hbind : ∀ (s : Shared) (u : Value), BindsTo s fd ⟨[u], []⟩ [(x, u)]) (hsp : sp [.ref a] H (fun v _ => v = .bl true) fun _ _ _ => False)
    (only : Only H) (hok : HOk P w H s1.heap) (one : ∀ b, H b ≠ none → b = a) (notF : H a ≠ none → F.lookup a = none) : codeAny (model P w) callerA (.call (.ref fa) ⟨[.ref a], []⟩) (LawEnd s1) s1 := by
  have away : ∀ {b : Addr} {o : Obj}, s1.heap.get? b = some o → o.data ≠ .seq vs.toArray → H b = none := fun {b o} e d => by
    cases q : H b with
    | none => rfl
    | some u =>
      obtain rfl := one b (by rw [q]; exact Option.some_ne_none _)
      rw [ha] at e
      cases e
      exact absurd rfl d
  have names : ∀ {b : Addr} {m : Str → Option Value}, s1.heap.Ns b m → (hidT s1.heap H).Ns b m := fun {b m} h => by
    obtain ⟨o, es, ep, e, d, r⟩ := h
    exact ⟨o, es, ep, hidT_get e (away e (by rw [d]; exact fun z => nomatch z)), d, r⟩
  have innB : F.In (hidT s1.heap H) := fun b o e => hidT_get (inn b o e) (by
    cases q : H b with
    | none => rfl
    | some u =>
      have ne : H b ≠ none := by rw [q]; exact Option.some_ne_none _
      obtain rfl := one b ne
      rw [notF ne] at e
      cases e)
  obtain ⟨mc, l1, l2⟩ := lim
  have e0 : Env0 P w F mg (hidT s1.heap H) callerA [] s1 H := ⟨rfl, ⟨innB, names hns, ⟨mb, names hb, hbb⟩, ⟨mc, names l1, l2⟩⟩, fun b o e => of_hidT e, Nat.le_of_eq (hidT_size _ _), trivial, fun b z => absurd z (List.not_mem_nil), hok, .of_eq bare⟩
  refine codeAny_mono ((G _ innB (names hns)).run callerA hr rfl [] s1 H e0 ⟨[.ref a], []⟩ [.ref a] [.ref a] (.cons rfl .nil) (hbind s1 (.ref a)) _ _ hsp) fun r s2 z => ?_
  match r, z with
  | .error e, z =>
    obtain ⟨_, _, _, _, _, _, _, _, _, _, _, _, n⟩ := z
    exact n.elim
  | .ok .next, z => exact z.elim
  | .ok .brk, z => exact z.elim
  | .ok .cont, z => exact z.elim
  | .ok (.ret u), ⟨v, H2, e1, e2, un, ok2, r2, q2⟩ =>
    subst q2
    obtain rfl : u = Value.bool true := r2
    refine ⟨rfl, OldK.of_keep fun b o e => ?_, e1, e2⟩
    rcases only b with q | ⟨ob, xs, q⟩
    · exact un.keep b o e q (by intro z; exact absurd (show b ∈ ([] : List Addr) from z) List.not_mem_nil) (by simp)
    · have f1 := (hok b _ q).1
      rw [f1] at e
      cases e
      exact (ok2 b _ (un.frzs b _ _ q)).1
/-- the law's call -/
theorem law_run (inn : F.In s1.heap) (hns : s1.heap.Ns mainGlobals mg) (hb : s1.heap.Ns builtinsNs mb) (hbb : ∀ x : Str, x ≠ "__name__" → mb x = bootBuiltins x) (lim : s1.heap.NoLimit) (bare : s1.gens = #[])
    (ha : s1.heap.get? a = some { cls := .type "list", data := .seq vs.toArray }) (hi : IntsAre vs ns) (hl : ns.length ≤ sizeLine) (hr : Room k callerA)
    (G : ∀ base : Heap, F.In base → base.Ns mainGlobals mg → FnG P w F mg base k fa fd [x] sp) (hbind : ∀ (s : Shared) (u : Value), BindsTo s fd ⟨[u], []⟩ [(x, u)])
    (hsp : ∀ H : Hp, Only H → SqL F H a (ns.map V.int) → sp [.ref a] H (fun v _ => v = .bl true) fun _ _ _ => False) : codeAny (model P w) callerA (.call (.ref fa) ⟨[.ref a], []⟩) (LawEnd s1) s1 := by
  have rv := vals_ints hi
  cases hk : F.lookup a with
  | some o =>
    obtain rfl := Option.some.inj ((inn a o hk).symm.trans ha)
    have on : Only fun _ => none := fun _ => .inl rfl
    refine law_in (H := fun _ => none) inn hns hb hbb lim bare ha hr G hbind (hsp _ on (.inr ⟨_, vs.toArray, _, hk, rfl, rfl, rfl, ?_, by simpa using rv⟩)) on (fun _ _ z => nomatch z) (fun _ z => absurd rfl z) (fun z => absurd rfl z)
    rw [List.size_toArray, hi.length]
    exact hl
  | none =>
    let u : HO := .frz { cls := .type "list", data := .seq vs.toArray } (.lst (ns.map V.int))
    have at_a : (upd (fun _ => none) a u : Hp) a = some u := upd_same
    have off : ∀ b, b ≠ a → (upd (fun _ => none) a u : Hp) b = none := fun b z => upd_ne z
    have on : Only (upd (fun _ => none) a u) := fun b => by
      by_cases e : b = a
      · subst e
        exact .inr ⟨_, _, at_a⟩
      · exact .inl (off b e)
    refine law_in (H := upd (fun _ => none) a u) inn hns hb hbb lim bare ha hr G hbind (hsp _ on (.inl (.inr ⟨_, at_a⟩))) on (fun b q z => ?_) (fun b z => Decidable.byContradiction fun e => z (off b e)) (fun _ => hk)
    by_cases e : b = a
    · subst e
      rw [at_a] at z
      cases z
      exact ⟨ha, by rw [List.length_map]; exact hl, vs, _, rv, ha⟩
    · rw [off b e] at z
      cases z
end
/-- the goal that the head leaves, from the law's promise; the script's ints are of at most 1048576 bits -/
theorem walkG {l : PySem.W.OpenLaw} {n k : Nat} {q : Program} {loose : List Str} {XP : (Str → Option Value) → Heap → Prop} {YP : World → Heap → Prop} {d : DefRec} {K : Params → PySem.W.Frag} {sp : World → Sp} {x : Str}
    (hn : l.most = some n) (hn2 : n ≤ sizeLine) (hdf : d.params.defaults = []) (hr : Room k callerA) (hY : ∀ (w : World) (h : Heap), YP w h → (K w.params).In h)
    (G : ∀ (w : World) (mg : Str → Option Value) (fa : Addr) (h : Heap), (K w.params).In h → h.Ns mainGlobals mg → mg d.name = some (.ref fa) →
      ∃ fd : FuncData, (∀ (s : Shared) (u : Value), BindsTo s fd ⟨[u], []⟩ [(x, u)]) ∧ ∀ base : Heap, (K w.params).In base → base.Ns mainGlobals mg → FnG l.prog w (K w.params) mg base k fa fd [x] (sp w))
    (hsp : ∀ (w : World) (H : Hp) (a : Addr) (ns : List Int), ns.length ≤ n → (∀ z ∈ ns, Builtin.Int.intBits z ≤ 1048576) → Only H → SqL (K w.params) H a (ns.map V.int) → sp w [.ref a] H (fun v _ => v = .bl true) fun _ _ _ => False) :
    PySem.W.WalkO q loose XP YP l.row.toRowW d [] (fun f vs => PySem.call f vs) := by
  refine Att.attach_callB hn hdf fun w s0 s1 mg mb fa o pm cd doc a vs ns B Y ho hd hcd hmg hobj hints hlen hbits hg => ?_
  obtain ⟨fd, b, g⟩ := G w mg fa _ (hY w _ Y) B.T.g hmg
  exact law_run (hY w _ Y) B.T.g B.T.b B.T.builtins B.T.nolimit hg hobj hints (Nat.le_trans hlen hn2) hr g b fun H on s => hsp w H a ns hlen hbits on s
end Z

namespace Z
open PySem L2 SX
open PyProof.Rows (subscriptTail)
section
variable {c : Ct} {M M1 M2 : Md} {st : St} {H : Hp} {P P1 P2 P3 : VK} {W : XK} {e a b d : Expr} {es : List Expr} {pos pos' p1 : Pos} {vs : List V}
theorem ev_chainB {o o' : CmpOp} {p r : Bool} (ha : Ev c M M a st H P1 W) (hb : ∀ H', Same H H' → Ev c M M b st H' P2 W) (mo : Mono P1) (mo2 : Mono P2) (hd : p = true → ∀ H', Same H H' → Ev c M M d st H' P3 W)
    (ho : ∀ x y H', Same H H' → P1 x H' → P2 y H' → Op2 c M (compareOp o) x y H' (Is (.bl p))) (ho' : p = true → ∀ x y H', Same H H' → P2 x H' → P3 y H' → Op2 c M (compareOp o') x y H' (Is (.bl r)))
    (hm : lastMarks [o, o'] [b, d] = false := by with_unfolding_all rfl) : Ev c M M (.Compare a [o, o'] [b, d] pos) st H (Is (.bl (p && r))) W :=
  ev_chain ha hb mo mo2 hd ho (fun h H' => by rw [h]; rfl) (fun h x y H' s q1 q2 => (ho' h x y H' s q1 q2).imp fun v H'' _ z => by rw [show v = .bl r from z, h]; rfl) hm
theorem OpF.imp {f : Value} {xs : List V} (h : OpF c M f xs H P) (k : ∀ v H', Same H H' → P v H' → P1 v H') : OpF c M f xs H P1 := .mk fun X hX K j Q q => h.run X hX K j Q fun v H' K' g p => q v H' K' g (k v H' g.b p)
theorem OpI.imp {x y : V} (h : OpI c M x y H P) (k : ∀ v H', Same H H' → P v H' → P1 v H') : OpI c M x y H P1 := .mk fun X hX K j Q q => h.run X hX K j Q fun v H' K' g p => q v H' K' g (k v H' g.b p)
theorem OpM.imp {id : String} {x : V} {xs : List V} (h : OpM c M id x xs H P) (k : ∀ v H', Same H H' → P v H' → P1 v H') : OpM c M id x xs H P1 := .mk fun X hX K j Q q => h.run X hX K j Q fun v H' K' g p => q v H' K' g (k v H' g.b p)
theorem ev_andF (ha : Ev c M M1 a st H (Is (.bl false)) W) : Ev c M M1 (.BoolOp .And (a :: b :: es) pos) st H (Is (.bl false)) W := ev_and (.refl _) ha fun _ _ _ e => ⟨false, e, fun z => (nomatch z), fun _ => rfl⟩
theorem ev_orT (ha : Ev c M M1 a st H (Is (.bl true)) W) : Ev c M M1 (.BoolOp .Or (a :: b :: es) pos) st H (Is (.bl true)) W := ev_or (.refl _) ha fun _ _ _ e => ⟨true, e, fun z => (nomatch z), fun _ => rfl⟩
/-! ### dicts that are known for good -/
theorem le_rdk {H K : Hp} {p : Addr} {kvs : List (Key × V)} (l : Le H K) (h : H p = some (.dK kvs)) : L2.Rd K p (.dK kvs) := by
  rcases l _ _ h with q | ⟨kv, ob, e, q⟩
  · exact .inl q
  · cases e
    exact .inr ⟨ob, q⟩
theorem ev_dget (ha : Ev c M M1 a st H P1 W) (hb : ∀ H', Same H H' → Ev c M1 M2 b st H' P2 W) (mo : Mono P1)
    (ho : ∀ x y H', Same H H' → P1 x H' → P2 y H' → ∃ p kvs k v, x = .ref p ∧ y = kV k ∧ H' p = some (.dK kvs) ∧ valV kvs k = some v ∧ P v H') (hs : NoSl b) : Ev c M M2 (.Subscript a b pos) st H P W := .mk fun X hX K j Q q x => by
  have hX' := hX
  cases hX' with
  | mk _ k' Wx fa hr hc hp ht hf hN hU =>
    refine cE_of (pe_dget (by have := hr.units; omega) cE_pe cE_pe hs) ?_
    refine ha.run X hX K j _ (fun v H1 K1 g1 q1 => ?_) x
    refine (hb H1 g1.b).run X hX K1 g1.j _ (fun u H2 K2 g2 q2 => ?_) (fun Mx cls dd H' K' g z => x Mx cls dd H' K' (g1.trans g) z)
    obtain ⟨p, kvs, k, w, rfl, rfl, h3, h4, h5⟩ := ho v u H2 (g1.b.trans g2.b) (mo.mono _ _ _ g2.b q1) q2
    exact ⟨p, w, rfl, .inl ⟨kvs, k, le_rdk g2.j.le h3, rfl, h4.symm⟩, q w H2 K2 (g1.trans g2) h5⟩
theorem o_inD {k : Key} {p : Addr} {kvs : List (Key × V)} (h : H p = some (.dK kvs)) : Op2 c M (compareOp .In) (kV k) (.ref p) H (Is (.bl (valV kvs k).isSome)) := .mk fun X hX K j Q q => by
  have hX' := hX
  cases hX' with
  | mk _ k' Wx fa hr hc hp ht hf hN hU =>
    intro pins s st v u I r1 r2
    cases r2
    exact d_in (by have := hr.units; omega) I (.inl ⟨kvs, k, le_rdk j.le h, rfl, rfl⟩) r1 fun s2 I2 => ⟨.bl _, K, I2, rfl, q _ H K (.refl j) rfl⟩
theorem o_notInD {k : Key} {p : Addr} {kvs : List (Key × V)} (h : H p = some (.dK kvs)) : Op2 c M (compareOp .NotIn) (kV k) (.ref p) H (Is (.bl (!(valV kvs k).isSome))) := .mk fun X hX K j Q q => by
  have hX' := hX
  cases hX' with
  | mk _ k' Wx fa hr hc hp ht hf hN hU =>
    intro pins s st v u I r1 r2
    cases r2
    exact d_notIn (by have := hr.units; omega) I (.inl ⟨kvs, k, le_rdk j.le h, rfl, rfl⟩) r1 fun s2 I2 => ⟨.bl _, K, I2, rfl, q _ H K (.refl j) rfl⟩
/-! ### data that is shown, that is held against other data -/
theorem dp_ints {F : PySem.W.Frag} {K : Hp} : ∀ ns : List Int, DpAll F K (ns.map V.int) (ns.map PyData.int)
  | [] => .nil
  | n :: r => .cons (.int n) (dp_ints r)
theorem call_reprD {X : Cx} (hu : X.A.units + 100 < cLine) (hU : X.A.guards = some []) : CallR X (.builtin "repr") (fun xs K Q => ∃ a d, xs = [.ref a] ∧ Dp X.K K (.ref a) d ∧ d.showable = true ∧ d.hasDict = false ∧ d.depth ≤ 64 ∧ d.shown.length ≤ sizeLine ∧ Q (.str d.shown) K) := by
  intro pins s st K xs us Q I r h
  obtain ⟨a, d, rfl, dp, h1, h2, h3, h4, q⟩ := h
  obtain ⟨u, rfl, ru⟩ := vals1 r
  cases ru
  obtain ⟨as, rd⟩ := Dp.reads I d _ _ dp rfl
  exact repr_of_reads' rd h1 (PyData.noDict_hsm h2) hU (by omega) (fun _ _ z => z) (fun h' u tk hk => ⟨.str _, K, I.kept hk, ⟨_, rfl⟩, q⟩) h4
theorem f_repr {p : Addr} {dt : PyData} (h : ∀ K, Le H K → Dp c.K K (.ref p) dt) (h1 : dt.showable = true) (h2 : dt.hasDict = false) (h3 : dt.depth ≤ 64) (h4 : dt.shown.length ≤ sizeLine) : OpF c M (.builtin "repr") [.ref p] H (Is (.str dt.shown)) := .mk fun X hX K j Q q => by
  have hX' := hX
  cases hX' with
  | mk _ k' Wx fa hr hc hp ht hf hN hU => exact cF_of (call_reprD (by have := hr.un; omega) hU) ⟨p, dt, rfl, h K j.le, h1, h2, h3, h4, q _ H K (.refl j) rfl⟩
theorem o_eqD {p q : Addr} {d1 d2 : PyData} (h1 : ∀ K, Le H K → Dp c.K K (.ref p) d1) (h2 : ∀ K, Le H K → Dp c.K K (.ref q) d2) (s1 : SeqAt.shaped d1 = true) (s2 : SeqAt.shaped d2 = true) : Op2 c M (compareOp .Eq) (.ref p) (.ref q) H (Is (.bl (PyData.eqv d1 d2))) := .mk fun X hX K j Q k => by
  have hX' := hX
  cases hX' with
  | mk _ k' Wx fa hr hc hp ht hf hN hU => exact cO_of (op_eqD hr.units) ⟨d1, d2, h1 K j.le, h2 K j.le, s1, s2, k _ H K (.refl j) rfl⟩
/-! ### two names at once -/
theorem sw_two {x y : Str} {px py pt p2 : Pos} {kt k2 : Nat} {env : Env} (hb : env.blockKind = .function) (hx : env.kindOf x = some .local) (hy : env.kindOf y = some .local) (hl : (py.line == px.line) = true) (hn : (x == y) = false)
    (hs : ([a, b].any fun | .Starred .. => true | _ => false) = false) (hf : [a, b].all (foldedForSure 8) = false) (hc : [a, b].all (constantsAlone 8) = false) :
    swappedStores [.Tuple [.Name x px, .Name y py] kt pt] (.Tuple [a, b] k2 p2) env = pure (some [x, y]) := by
  have hl' : (px.line == px.line) = true := beq_self_eq_true _
  have hn' : (y == x) = false := by
    rw [beq_eq_false_iff_ne] at hn ⊢
    exact fun z => hn z.symm
  unfold swappedStores
  simp only [hb, hs, hf, hc, Expr.pos, List.head?_cons, Option.map_some, Option.getD_some, List.filterMap_cons, List.filterMap_nil, hx, hy, hl, hl', beq_self_eq_true, Bool.and_self, Bool.and_true, if_true, List.length_cons, List.length_nil]
  simp [List.eraseDups, List.eraseDupsBy, List.eraseDupsBy.loop, hn']
  simp only [List.any_cons, List.any_nil, Bool.or_false, Bool.or_eq_false_iff] at hs
  rintro (z | z)
  · exact absurd (z.symm.trans hs.1) (by decide)
  · exact absurd (z.symm.trans hs.2) (by decide)
end
end Z

namespace Z
open PySem PySem.Spec L2 SX
/-- a heap with an object less -/
def del (H : Hp) (p : Addr) : Hp := fun a => if a = p then none else H a
theorem del_p {H : Hp} {p : Addr} : del H p p = none := if_pos rfl
theorem del_ne {H : Hp} {p a : Addr} (h : a ≠ p) : del H p a = H a := if_neg h
theorem del_sub {H : Hp} {p a : Addr} {o : HO} (h : del H p a = some o) : a ≠ p ∧ H a = some o := by
  by_cases e : a = p
  · rw [e, del_p] at h
    cases h
  · exact ⟨e, (del_ne e).symm.trans h⟩
/-- a mode that says nothing of what is known for good -/
def Md.Nh (M : Md) : Prop := ∀ H H' K, M.R H K → M.R H' K
theorem nh_pure : pureM.Nh := fun _ _ _ _ => trivial
/-- an object that came since the entry is no longer known for good: it may change -/
theorem Go.forget {M0 M : Md} {H0 K0 H K : Hp} (g : Go M0 M H0 K0 H K) (nh : M.Nh) {p : Addr} {xs : List V} (n0 : H0 p = none) (h : H p = some (.lst xs)) : Go M0 M H0 K0 (del H p) K ∧ Own M (del H p) K p (.lst xs) ∧ K0 p = none := by
  have hS : ¬ M.S p := fun z => by
    rw [g.j.off p z] at h
    cases h
  have k0 : K0 p = none := g.f p n0 (by rw [h]; exact Option.some_ne_none _)
  refine ⟨⟨⟨fun a u e => g.j.le a u (del_sub e).2, fun a z => ?_, nh _ _ _ g.j.r⟩, fun a u e => ?_, g.k, fun a e n => ?_, g.d, g.s⟩, ⟨hS, del_p, g.j.le.lst h⟩, k0⟩
  · by_cases e : a = p
    · rw [e, del_p]
    · rw [del_ne e]
      exact g.j.off a z
  · have ne : a ≠ p := fun z => by
      rw [z, n0] at e
      cases e
    rw [del_ne ne]
    exact g.b a u e
  · by_cases z : a = p
    · rw [z]
      exact k0
    · rw [del_ne z] at n
      exact g.f a e n
/-- a list that is new since H -/
abbrev NewL (H : Hp) (xs : List V) : VK := fun v H' => ∃ p, v = .ref p ∧ H p = none ∧ H' p = some (.lst xs)
instance {H : Hp} {xs : List V} : Mono (NewL H xs) := ⟨fun _ _ _ s ⟨p, e, n, h⟩ => ⟨p, e, n, s _ _ h⟩⟩
/-! ### names stored from the items of a list -/
def IsNs (c : Ct) : List Expr → List Nat → Prop
  | [], [] => True
  | e :: es, j :: js => IsN c e j ∧ IsNs c es js
  | _, _ => False
def gNs : List Nat → TGs
  | [] => gNil
  | j :: js => gCons (gName j) (gNs js)
def setAll (st : St) : List Nat → List V → St
  | j :: js, x :: xs => setAll (st.set j (some x)) js xs
  | _, _ => st
theorem gNs_of {K : Hp} {Q : L2.St → Hp → Prop} : ∀ (js : List Nat) (xs : List V) (st : L2.St), xs.length = js.length → Q (setAll st js xs) K → gNs js xs st K Q
  | [], [], _, _, q => ⟨rfl, q⟩
  | [], _ :: _, _, h, _ => nomatch h
  | _ :: _, [], _, h, _ => nomatch h
  | _ :: js, x :: xs, _, h, q => ⟨x, xs, rfl, gNs_of js xs _ (Nat.succ.inj h) q⟩
theorem pgs_names {c : Ct} {X : Cx} (hX : Con c X) : ∀ {es : List Expr} {js : List Nat}, IsNs c es js → PGs X es (gNs js) ∧ (assignEach es X.env).length = js.length ∧ (assignEach es X.env).findIdx? (·.1) = none
  | [], [], _ => ⟨pgs_nil, rfl, rfl⟩
  | e :: es, j :: js, ⟨h1, h2⟩ => by
    obtain ⟨q1, q2, q3⟩ := pgs_names hX h2
    have g := isN_pg h1 hX
    obtain ⟨x, p, rfl, _⟩ := h1
    refine ⟨pgs_cons g q1, ?_, ?_⟩
    · show (assignEach es X.env).length + 1 = js.length + 1
      rw [q2]
    · show ((false, assign (.Name x p) X.env) :: assignEach es X.env).findIdx? (·.1) = none
      rw [List.findIdx?_cons, q3]
      rfl
section
variable {c : Ct} {X : Cx} {M0 M M1 M2 : Md} {Mi : Nat → Md} {H0 K0 H K : Hp} {st : L2.St} {D : Ends} {W : XK} {P P1 : VK} {e a b o tg iter elt kx vx : Expr} {es : List Expr} {ifs : List Expr} {scope : Scope} {pos p1 apos : Pos} {n : Nat} {Y Y2 : Nat → VK} {own : List (Str × Nat)} {x : Str}
/-- a, b, .. = a list -/
theorem s_unL {js : List Nat} {k : Nat} (hX : Con c X) (g : Go M0 M H0 K0 H K) (er : Errs c M0 H0 K0 W) (hn : IsNs c es js) (he : Ev c M M1 e st H P W)
    (q : ∀ v H' K', Go M0 M1 H0 K0 H' K' → Go M M1 H K H' K' → P v H' → ∃ p xs, v = .ref p ∧ H' p = some (.lst xs) ∧ xs.length = js.length ∧ D.nx (setAll st js xs) K')
    (hs : ∀ env, swapsWithSole [.Tuple es k p1] e pos.line env = pure false := by intro _; rfl) (hw : ∀ env, swappedStores [.Tuple es k p1] e env = pure none := by intro _; rfl) : cS X (.Assign [.Tuple es k p1] e pos) D st K := by
  have hX' := hX
  cases hX' with
  | mk _ k' Wx fa hr hc hp ht hf hN hU =>
    obtain ⟨q1, q2, q3⟩ := pgs_names hX hn
    refine cS_of (ps_asg cE_pe (pg_unl hc q1 q2 q3) (hs _) (hw _)) ?_
    refine he.run X hX K g.j _ (fun v H' K' g' pv => ?_) (fun Mx cls d H' K' g' w => er Mx cls d st H' K' (g.trans g') w)
    obtain ⟨p, xs, e1, e2, e3, e4⟩ := q v H' K' (g.trans g') g' pv
    exact ⟨p, xs, e1, SqL.of (g'.j.le.lst e2), e3, gNs_of js xs st e3 e4⟩
/-- x.append(e) on a list of one's own -/
theorem s_append {p : Addr} {xs : List V} (hX : Con c X) (g : Go M0 M H0 K0 H K) (er : Errs c M0 H0 K0 W) (ho : Ev c M M o st H (Is (.ref p)) W) (he : ∀ H', Same H H' → Ev c M M1 e st H' P1 W) (ow : Own M H K p (.lst xs)) (n0 : K0 p = none) (hl : xs.length < 16777216)
    (k : ∀ v H' K', Go M0 M1 H0 K0 H' K' → Same H H' → Own M1 H' K' p (.lst (xs ++ [v])) → P1 v H' → D.nx st K')
    (hsw : ∀ env, swapsWith (.Call (.Attribute o "append" apos) [e] [] p1) none pos.line env = pure false := by intro _; rfl) (hbase : ∀ env, attributeBase o "append" env (eval o env) = eval o env := by intro _; rfl)
    (hfew : ∀ env, ((backTo p1 (starEach [e] env)).all (fun x => !x.1) && (backToKw p1 (keywordEach [] env)).all (fun x => x.1.isSome) && decide ([e].length + ([] : List Keyword).length + (if ([] : List Keyword).isEmpty then 0 else 1) < 30)) = true := by intro _; rfl)
    (hline : (apos.endLine == p1.line) = true := by rfl) (hst : ∀ env, starEach [e] env = (false, eval e env) :: starEach [] env := by intro _; rfl) (hpl : ∀ env, (backTo p1 (starEach [] env)).any (·.1) = false := by intro _; rfl) :
    cS X (.Expr (.Call (.Attribute o "append" apos) [e] [] p1) pos) D st K := by
  have hX' := hX
  have hz : xs.length < sizeLine := by
    rw [sizeLine_eq]
    exact hl
  cases hX' with
  | mk _ k' Wx fa hr hc hp ht hf hN hU =>
    refine cS_of (ps_expr (pe_bm F.plainAttrs_list F.slot_list_append rfl mt_append cE_pe (pa_cons cE_pe pa_nil (hst _)) (hbase _) (hfew _) hline (hst _) (hpl _)) (hsw _)) ?_
    refine ho.run X hX K g.j _ (fun v H1 K1 g1 q1 => ?_) (fun Mx cls d H' K' g' w => er Mx cls d st H' K' (g.trans g') w)
    have o1 := g1.own ow
    refine ⟨by rw [q1]; exact .inl ⟨rfl, xs, SqL.of o1.k⟩, ?_⟩
    refine (he H1 g1.b).run X hX K1 g1.j _ (fun y H2 K2 g2 q2 => ?_) (fun Mx cls d H' K' g' w => er Mx cls d st H' K' (g.trans (g1.trans g')) w)
    have o2 := g2.own o1
    exact ⟨p, xs, y, q1, rfl, o2.k, hz, k y H2 _ ((g.trans (g1.trans g2)).setOwn n0 o2) (g1.b.trans g2.b) o2.set q2⟩
theorem sw_dict {gs : List Comprehension} {py : Pos} {y : Str} {l : Nat} {env : Env} (hk : env.scope.kind = .function) (hy : env.scope.names.lookup y = some .local) (hl : (py.line == pos.line) = true)
    (ha : (scope.names.any fun (n, k) => n == y && (k == .local || k == .cell)) = false) : swapsWith (.DictComp kx vx gs scope pos) (some (.Name y py)) l env = pure true := by
  have k1 : env.kindOf y = some .local := hy
  have k2 : env.blockKind = .function := by
    unfold Env.blockKind
    rw [hk]
    rfl
  unfold swapsWith
  simp only [k2, k1, ha, Expr.pos, hl]
  rfl
end
/-- name = {..} on one line -/
theorem ps_setDc {X : Cx} {i : Nat} {y : Str} {py : Pos} {kx vx tg iter : Expr} {ifs : List Expr} {scope : Scope} {own : List (Str × Nat)} {pos spos : Pos} {wi : TI} {g : TG} {tt : TT} {tk tv : TE} (hc : X.calm = true) (hN : X.N.Nodup) (hy : X.N[i]? = some y)
    (hyl : X.env.scope.names.lookup y = some .local) (hsw : swapsWith (.DictComp kx vx [⟨tg, iter, ifs, 0⟩] scope pos) (some (.Name y py)) spos.line X.env = pure true) (hi : PI X tg iter wi) (ok : BlkOk X.N X.env.scope scope own)
    (hg : ∀ s H C cl fp, PG (X.blk s H scope (compEnvC scope cl C X.env) fp) tg g) (ht : ∀ s H C cl fp, PTs (X.blk s H scope (compEnvC scope cl C X.env) fp) ifs tt) (hk : ∀ s H C cl fp, PE (X.blk s H scope (compEnvC scope cl C X.env) fp) kx tk)
    (he : ∀ s H C cl fp, PE (X.blk s H scope (compEnvC scope cl C X.env) fp) vx tv) (hs : ∀ x, foldedSetIterable iter X.env x = pure x) :
    PS X (.Assign [.Name y py] (.DictComp kx vx [⟨tg, iter, ifs, 0⟩] scope pos) spos) (tAsg (tDc wi g tt tk tv (own.map (·.2))) (gName i)) := by
  refine ⟨fun pins s st K D I h => ?_⟩
  rw [exec_Assign_Name_used _ _ _ _ hsw]
  refine wpAny_bind (wpAny_standAt (wpAny_bind ?_))
  show wpAny _ X.A (do let _ ← comprehension (.DictComp kx vx [⟨tg, iter, ifs, 0⟩] scope pos) scope X.env (firstIterPos [⟨tg, iter, ifs, 0⟩] pos) newDict false (eval iter X.env) (some (assign (.Name y py) X.env))) _ _ s
  have h : tDc wi g tt tk tv (own.map (·.2)) st K (fun x K1 => gName i x st K1 D.nx) := h
  refine wpAny_bind (thn (dc_core (Qf := fun _ s2 => SP X pins D .next s2) hc hN I hi ok hg ht hk he hs h fun L C s2 m K2 I2 q hn f => ?_) fun _ s2 z => wpAny_pure (wpAny_pure z))
  show wpAny _ _ (assign (.Name y py) X.env (.ref L)) _ _ _
  refine wpAny_assign_Name (store_ok2 (v := V.ref L) I2 hN hy (.inl hyl) rfl (fun s3 I3 z => ?_) (.inr hyl))
  obtain ⟨a, sb, ha⟩ := z
  obtain ⟨r0, r1, r2, r3, r4, r5⟩ := f
  have ne : C ≠ a := by
    cases ha with
    | inl z => exact z ▸ r1
    | inr z => exact fun e => r4 y a z e.symm
  exact ⟨m, hn.sameBut sb ne, fun h3 sb3 => ⟨_, K2, I3.turned (t' := s3.toks) (fun b o hb e => (sb3.2 b hb).trans e) r0 r1 r3 r4 r5, q⟩⟩
section
variable {c : Ct} {X : Cx} {M0 M M1 M2 : Md} {Mi : Nat → Md} {H0 K0 H K : Hp} {st : L2.St} {D : Ends} {W : XK} {tg iter kx vx : Expr} {ifs : List Expr} {scope : Scope} {pos p1 p2 : Pos} {n : Nat} {Y Y2 : Nat → VK} {own : List (Str × Nat)} {x : Str}
theorem s_setDc2 {i i0 j : Nat} (hX : Con c X) (g : Go M0 M H0 K0 H K) (er : Errs c M0 H0 K0 W) (hy : c.N[i]? = some x) (hyl : c.sc.names.lookup x = some .local)
    (hln : (p1.line == pos.line) = true) (hown : (scope.names.any fun (n, k) => n == x && (k == .local || k == .cell)) = false)
    (hi : EvI2 c M (Mi 0) tg iter st H n Y Y2 W) (hb : blkC c.N c.sc scope own = true) (htg : IsN2 (c.blk scope) tg i0 j) (hn : n ≤ 1000000)
    (hw : ∀ x y, wipe (((wipe st (own.map (·.2))).set i0 (some x)).set j (some y)) (own.map (·.2)) = wipe st (own.map (·.2)))
    (I : Nat → List (Key × V) → Hp → Prop) (hm : ∀ i acc H1 H2, Same H1 H2 → I i acc H1 → I i acc H2) (h0 : ∀ H', Same H H' → I 0 [] H')
    (hs : ∀ i x y acc H', Same H H' → i < n → Y i x H' → Y2 i y H' → I i acc H' → DcTurn (c.blk scope) (Mi i) (Mi (i + 1)) ifs kx vx (((wipe st (own.map (·.2))).set i0 (some x)).set j (some y)) H' acc (I (i + 1)))
    (k : ∀ p acc H' K', Go M0 (Mi n) H0 K0 H' K' → Go M (Mi n) H K H' K' → H p = none → H' p = some (.dK acc) → acc.length ≤ n → I n acc H' → D.nx (st.set i (some (.ref p))) K')
    (hf : ∀ env x, foldedSetIterable iter env x = pure x := by intro _ _; rfl) : cS X (.Assign [.Name x p1] (.DictComp kx vx [⟨tg, iter, ifs, 0⟩] scope pos) p2) D st K := by
  have hX' := hX
  cases hX' with
  | mk _ k' Wx fa hr hc hp ht hf' hN hU =>
    intro pins s J0
    refine cS_of (ps_setDc hc hN hy hyl (sw_dict J0.ok.kind hyl hln hown) cP_pi (blkOk_by hb) (isN2_blk htg hr hc hN hU) bT_pts bE_pe bE_pe (hf _)) ?_ pins s J0
    exact dc_run2 hX hi hn hw I hm h0 hs g.j (fun L acc H' K' g' nw e l i => k L acc H' K' (g.trans g') g' nw e l i) (fun Mx cls d H' K' g' w => er Mx cls d st H' K' (g.trans g') w)
end
end Z

namespace Z
open PySem PySem.Spec L2 SX
section
variable {c : Ct} {M M1 M2 : Md} {st : L2.St} {H : Hp} {P P1 P2 : VK} {W : XK} {e a b : Expr} {es rest : List Expr} {pos : Pos}
theorem Ev.cast {i j : Int} (h : Ev c M M1 e st H (Is (.int i)) W) (q : i = j) : Ev c M M1 e st H (Is (.int j)) W := q ▸ h
theorem Ev.castS {l k : List Nat} (h : Ev c M M1 e st H (Is (.str (S l))) W) (q : l = k) : Ev c M M1 e st H (Is (.str (S k))) W := q ▸ h
theorem Ev.castB {p r : Bool} (h : Ev c M M1 e st H (Is (.bl p)) W) (q : p = r) : Ev c M M1 e st H (Is (.bl r)) W := q ▸ h
theorem Ev.castV {x y : V} (h : Ev c M M1 e st H (Is x) W) (q : x = y) : Ev c M M1 e st H (Is y) W := q ▸ h
theorem EvT.castB {p r : Bool} (h : EvT c M M1 e st H (IsB p) W) (q : p = r) : EvT c M M1 e st H (IsB r) W := q ▸ h
end
theorem ev_dgetI {c : Ct} {M M1 M2 : Md} {st : L2.St} {H : Hp} {P1 P2 : VK} {W : XK} {a b : Expr} {pos : Pos} {v : V} (ha : Ev c M M1 a st H P1 W) (hb : ∀ H', Same H H' → Ev c M1 M2 b st H' P2 W) (mo : Mono P1)
    (ho : ∀ x y H', Same H H' → P1 x H' → P2 y H' → ∃ p kvs k, x = .ref p ∧ y = kV k ∧ H' p = some (.dK kvs) ∧ valV kvs k = some v) (hs : NoSl b) : Ev c M M2 (.Subscript a b pos) st H (Is v) W :=
  ev_dget ha hb mo (fun x y H' s q1 q2 => by
    obtain ⟨p, kvs, k, h1, h2, h3, h4⟩ := ho x y H' s q1 q2
    exact ⟨p, kvs, k, v, h1, h2, h3, h4, rfl⟩) hs
theorem ev_lcN {c : Ct} {M M1 : Md} {st : L2.St} {H : Hp} {W : XK} {tg iter elt : Expr} {ifs : List Expr} {scope : Scope} {pos : Pos} {n : Nat} {Y : Nat → VK} {own : List (Str × Nat)} {j : Nat} (hi : EvI c M M1 tg iter st H n Y W) (hb : blkC c.N c.sc scope own = true) (htg : IsN (c.blk scope) tg j)
    (hw : ∀ x, wipe ((wipe st (own.map (·.2))).set j (some x)) (own.map (·.2)) = wipe st (own.map (·.2))) (hn : n ≤ 1000000) (t : Nat → Bool) (f : Nat → V)
    (hs : ∀ i x H', Same H H' → i < n → Y i x H' → match ifs with
      | [] => t i = true ∧ Ev (c.blk scope) M1 M1 elt ((wipe st (own.map (·.2))).set j (some x)) H' (Is (f i)) W0
      | a :: r => EvTs (c.blk scope) M1 M1 (a :: r) ((wipe st (own.map (·.2))).set j (some x)) H' (IsB (t i)) W0 ∧ (t i = true → ∀ H'', Same H' H'' → Ev (c.blk scope) M1 M1 elt ((wipe st (own.map (·.2))).set j (some x)) H'' (Is (f i)) W0))
    (hf : ∀ env x, foldedSetIterable iter env x = pure x := by intro _ _; rfl) : Ev c M M1 (.ListComp elt [⟨tg, iter, ifs, 0⟩] scope pos) st H (NewL H (kept n t f)) W := by
  refine ev_lc (Mi := fun _ => M1) hi hb htg hn hw (fun i acc _ => acc = kept i t f) (fun _ _ _ _ _ h => h) (fun _ _ => rfl) (fun i x acc H' s hlt hY hI => ?_) (fun p acc H' _ nw e _ hI => ⟨p, rfl, nw, by rw [e, hI]⟩) hf
  have h := hs i x H' s hlt hY
  subst hI
  cases ifs with
  | nil =>
    refine h.2.imp fun v H'' _ e => ?_
    rw [kept_succ, if_pos h.1, e]
  | cons a r =>
    refine ⟨M1, IsB (t i), h.1, fun H'' _ e => ⟨.refl _, ?_⟩, fun H'' s2 e => (h.2 e.symm H'' s2).imp fun v H3 _ e3 => ?_⟩
    · rw [kept_succ, if_neg (by rw [← show false = t i from e]; decide)]
    · rw [kept_succ, if_pos (show t i = true from e.symm), e3]
theorem ea_consR {c : Ct} {M M1 M2 : Md} {st : L2.St} {H : Hp} {W : XK} {a : Expr} {es : List Expr} {v : V} {A : List V → Hp → Prop} (ha : Ev c M M1 a st H (Is v) W) (hb : ∀ H', Same H H' → EvA c M1 M2 es st H' A W)
    (hs : ∀ env, starEach (a :: es) env = (false, eval a env) :: starEach es env := by intro _; rfl) : EvA c M M2 (a :: es) st H (fun ws H' => ∃ r, ws = v :: r ∧ A r H') W :=
  (ea_cons ha hb inferInstance hs).imp fun ws H' _ ⟨x, r, e, e1, e2⟩ => ⟨r, by rw [e, e1], e2⟩
theorem newL_isL {H : Hp} {xs : List V} {v : V} {H' : Hp} (h : NewL H xs v H') : IsL xs v H' := let ⟨p, e, _, k⟩ := h; ⟨p, e, k⟩
theorem same_at {H H' : Hp} {p : Addr} {o : HO} (s : Same H H') (h : H p = some o) : H' p = some o := s _ _ h
/-! ### what holds between two statements -/
theorem cS.nx {X : Cx} {s : Stmt} {D : Ends} {Q : L2.St → Hp → Prop} {st : L2.St} {K : Hp} (h : cS X s { D with nx := Q } st K) (k : ∀ st2 K2, Q st2 K2 → D.nx st2 K2) : cS X s D st K := fun pins s I => by
  refine wpAny_mono (h pins s I) (fun fl s2 z => ?_) (fun _ _ z => z)
  match fl, z with
  | .next, ⟨st2, K2, I2, q⟩ => exact ⟨st2, K2, I2, k st2 K2 q⟩
  | .brk, z => exact z
  | .cont, z => exact z
  | .ret u, z => exact z
theorem b_mid {X : Cx} {s : Stmt} {r : List Stmt} {D : Ends} {st : L2.St} {K : Hp} (Q : L2.St → Hp → Prop) (h : cS X s { D with nx := Q } st K) (k : ∀ st2 K2, Q st2 K2 → cB X r D st2 K2) : cB X (s :: r) D st K :=
  b_cons (cS.nx (D := { D with nx := cB X r D }) h k)
/-! ### slices and places of texts -/
theorem cut_le {a : List Nat} {lo hi : Option Int} {n : Nat} (h : a.length ≤ n) : (cutN a lo hi).length ≤ n := by
  unfold cutN
  rw [List.length_take, List.length_drop]
  omega
theorem app_le {a b : List Nat} {i j : Nat} (h1 : a.length ≤ i) (h2 : b.length ≤ j) : (a ++ b).length ≤ i + j := by
  rw [List.length_append]
  exact Nat.add_le_add h1 h2
theorem cut_two {a : List Nat} {i j : Nat} {x y : Int} (hx : x = (i : Int)) (hy : y = (j : Int)) : cutN a (some x) (some y) = (a.drop i).take (j - i) := by
  subst hx hy
  unfold cutN
  rw [HT.sIx_nat, HT.sIx_nat]
  by_cases h : i ≤ a.length
  · rw [Nat.min_eq_left h]
    by_cases h2 : j ≤ a.length
    · rw [Nat.min_eq_left h2]
    · rw [Nat.min_eq_right (by omega), List.take_of_length_le (by rw [List.length_drop]; omega), List.take_of_length_le (by rw [List.length_drop]; omega)]
  · rw [Nat.min_eq_right (show a.length ≤ i by omega), List.drop_length, List.drop_of_length_le (by omega), List.take_nil, List.take_nil]
theorem cut_to {a : List Nat} {j : Nat} {y : Int} (hy : y = (j : Int)) : cutN a none (some y) = a.take j := by
  have h : cutN a none (some y) = cutN a (some 0) (some y) := by
    unfold cutN
    rw [HT.sIx_none, show (0 : Int) = ((0 : Nat) : Int) from rfl, HT.sIx_nat]
    simp
  rw [h, cut_two (x := 0) (i := 0) rfl hy]
  simp
theorem cut_from {a : List Nat} {i : Nat} {x : Int} (hx : x = (i : Int)) : cutN a (some x) none = a.drop i := by
  subst hx
  unfold cutN
  rw [HT.sIx_nat, HT.sIx_none]
  by_cases h : i ≤ a.length
  · rw [Nat.min_eq_left h, List.take_of_length_le (by rw [List.length_drop]; omega)]
  · rw [Nat.min_eq_right (by omega), List.drop_length, List.drop_of_length_le (by omega), List.take_nil]
theorem at_nat {α : Type} {xs : List α} {x : Int} {j : Nat} {v : α} (hx : x = (j : Int)) (h : xs[j]? = some v) : atI xs x = some v := by
  subst hx
  exact atI_nat h
end Z

namespace Z
open PySem PySem.Spec L2 SX
/-! ### one list that may change -/
/-- the list at p alone may change; what stands in it is told by A -/
def listM (p : Addr) (A : List V → Prop) : Md := ⟨fun a => a = p, fun _ K => ∃ xs, K p = some (.lst xs) ∧ A xs, fun H K K' h ⟨xs, e, q⟩ => ⟨xs, by rw [h p rfl]; exact e, q⟩, fun _ _ _ _ h => h, fun H K a ⟨xs, e, _⟩ s => by rw [show a = p from s, e]; exact Option.some_ne_none _⟩
abbrev listX (p : Addr) (xs : List V) : Md := listM p (· = xs)
theorem nh_list {p : Addr} {A : List V → Prop} : (listM p A).Nh := fun _ _ _ h => h
theorem list_le {p : Addr} {A B : List V → Prop} (h : ∀ xs, A xs → B xs) : Md.Le (listM p A) (listM p B) := ⟨rfl, fun _ _ ⟨xs, e, q⟩ => ⟨xs, e, h xs q⟩⟩
/-- what stands in the list is looked at -/
theorem J.look {p : Addr} {A : List V → Prop} {H K : Hp} (j : J (listM p A) H K) : ∃ xs, A xs ∧ Go (listM p A) (listX p xs) H K H K := by
  obtain ⟨xs, e, q⟩ := j.r
  exact ⟨xs, q, ⟨j.le, j.off, ⟨xs, e, rfl⟩⟩, Same.refl H, fun _ _ _ h => h, fun _ h n => absurd h n, fun _ h => h, rfl⟩
theorem J.cell {p : Addr} {xs : List V} {H K : Hp} (j : J (listX p xs) H K) : K p = some (.lst xs) := by
  obtain ⟨ys, e, q⟩ := j.r
  rw [← show ys = xs from q]
  exact e
/-- it changes -/
theorem Go.setM {M0 : Md} {p : Addr} {A : List V → Prop} {ys : List V} {H0 K0 H K : Hp} (g : Go M0 (listM p A) H0 K0 H K) : Go M0 (listX p ys) H0 K0 H (upd K p (.lst ys)) where
  j := {
    le := fun a u e => by
      have q : a ≠ p := fun z => by
        rw [z, g.j.off p rfl] at e
        cases e
      unfold Rdd
      rw [upd_ne q]
      exact g.j.le a u e
    off := g.j.off
    r := ⟨ys, upd_same, rfl⟩ }
  b := g.b
  k := fun a o n e => by
    have q : a ≠ p := fun z => n (by rw [← g.s]; exact z)
    rw [upd_ne q]
    exact g.k a o n e
  f := g.f
  d := fun a n => by
    by_cases q : a = p
    · rw [q, upd_same]
      exact Option.some_ne_none _
    · rw [upd_ne q]
      exact g.d a n
  s := g.s
/-- a list of one's own becomes the one that may change: the runs from here on have this entry -/
theorem Go.openM {M0 : Md} {H0 K0 H K : Hp} {p : Addr} {xs : List V} (g : Go M0 pureM H0 K0 H K) (w : Own pureM H K p (.lst xs)) : Go (listX p xs) (listX p xs) H K H K :=
  .refl ⟨g.j.le, fun a e => by rw [show a = p from e]; exact w.h, ⟨xs, w.k, rfl⟩⟩
theorem Go.closeM {M0 : Md} {H0 K0 H K H2 K2 : Hp} {p : Addr} {A B : List V → Prop} (g : Go M0 pureM H0 K0 H K) (n0 : K0 p = none) (g2 : Go (listM p A) (listM p B) H K H2 K2) : Go M0 pureM H0 K0 H2 K2 where
  j := ⟨g2.j.le, fun _ z => z.elim, trivial⟩
  b := g.b.trans g2.b
  k := fun a o n e => g2.k a o (fun z => by rw [show a = p from z, n0] at e; cases e) (g.k a o n e)
  f := fun a h n => by
    by_cases q : H a = none
    · cases e : K0 a with
      | none => rfl
      | some o => exact absurd (g2.f a q n) (g.d a (by rw [e]; exact Option.some_ne_none _))
    · exact g.f a h q
  d := fun a h => g2.d a (g.d a h)
  s := g.s
section
variable {c : Ct} {X : Cx} {M0 M M1 M2 : Md} {H0 K0 H K : Hp} {st : L2.St} {D : Ends} {W : XK} {P P1 P2 : VK} {e a b : Expr} {pos p1 : Pos} {p : Addr} {xs : List V} {i : Int} {v : V}
/-- a place of the list is read -/
theorem ev_subM (ha : Ev c M M1 a st H (Is (.ref p)) W) (hb : ∀ H', Same H H' → Ev c M1 (listX p xs) b st H' (Is (.int i)) W) (hv : atI xs i = some v) (hs : PlainIx b := by exact fun _ _ => rfl) : Ev c M (listX p xs) (.Subscript a b pos) st H (Is v) W :=
  ev_sub ha hb inferInstance (fun x y H' _ q1 q2 => .mk fun X hX K j Q q => by
    subst q1 q2
    have hX' := hX
    cases hX'
    exact cI_of ix_list ⟨p, xs, i, v, rfl, rfl, SqL.of j.cell, hv, q _ H' K (.refl j) rfl⟩) hs
/-- a place of the list is written -/
theorem s_setM {y : V} {k : Nat} (hX : Con c X) (g : Go M0 M H0 K0 H K) (er : Errs c M0 H0 K0 W) (hv : Ev c M (listX p xs) e st H (Is y) W) (ho : ∀ H', Same H H' → Ev c (listX p xs) (listX p xs) a st H' (Is (.ref p)) W) (hi : ∀ H', Same H H' → Ev c (listX p xs) (listX p xs) b st H' (Is (.int (k : Nat))) W) (hk : k < xs.length)
    (q : ∀ H' K', Go M0 (listX p (xs.set k y)) H0 K0 H' K' → Same H H' → D.nx st K')
    (ha : ∀ env v, assign (.Subscript a b p1) env v = (do
      let ov ← holding [v] (eval a env)
      let iv ← holding [v, ov] (eval b env)
      standAt p1
      holding [v, ov, iv] (setItem ov iv v)
      release [v, ov, iv] []) := by intro _ _; rfl) (hsw : ∀ env, swapsWithSole [.Subscript a b p1] e pos.line env = pure false := by intro _; rfl) (hst : ∀ env, swappedStores [.Subscript a b p1] e env = pure none := by intro _; rfl)
    (has : ∀ env, (assignEach [.Subscript a b p1] env).map (·.2) = [assign (.Subscript a b p1) env] := by intro _; rfl) : cS X (.Assign [.Subscript a b p1] e pos) D st K := by
  refine s_setItem hX g er inferInstance inferInstance hv ho hi (fun v o i H' K' g' g2 e1 e2 e3 => ?_) ha hsw hst has
  subst e1 e2 e3
  exact ⟨p, xs, (k : Nat), k, rfl, rfl, g'.j.cell, (if_pos (Int.natCast_nonneg k)).trans ((if_pos (Int.ofNat_lt.mpr hk)).trans rfl), q H' _ g'.setM g2.b⟩
end
/-! ### products -/
theorem mulW {i j : Int} {m k : Nat} (hi : i.natAbs < 2 ^ m) (hj : j.natAbs < 2 ^ k) (h : m + k < 1000000) : CMulW i j := by
  have f : ∀ {x m : Nat}, x < 2 ^ m → x.log2 ≤ m := fun {x m} hx => by
    by_cases z : x = 0
    · rw [z]
      simp
    · exact Nat.le_of_lt ((Nat.log2_lt z).mpr hx)
  unfold CMulW
  have := f hi
  have := f hj
  omega
end Z

namespace Z
open PySem PySem.Spec L2 SX
theorem OpL.imp {c : Ct} {M : Md} {H : Hp} {P P1 : VK} {x : V} {l u : Option Int} (h : OpL c M x l u H P) (k : ∀ v H', Same H H' → P v H' → P1 v H') : OpL c M x l u H P1 := .mk fun X hX K j Q q => h.run X hX K j Q fun v H' K' g p => q v H' K' g (k v H' g.b p)
/-! ### stores into names that a comprehension reads -/
section
variable {c : Ct} {X : Cx} {M0 M M1 M2 : Md} {H0 K0 H K : Hp} {st : L2.St} {D : Ends} {W : XK} {P : VK} {a b : Expr} {pos p1 : Pos} {x y : Str}
theorem sw_half {px py pt p2 : Pos} {kt k2 : Nat} {env : Env} (hb : env.blockKind = .function) (hx : env.kindOf x = some .local ∨ env.kindOf x = some .cell) (hy : env.kindOf y = some .local ∨ env.kindOf y = some .cell) (hn : env.kindOf x = some .cell ∨ env.kindOf y = some .cell)
    (hs : ([a, b].any fun | .Starred .. => true | _ => false) = false) : swappedStores [.Tuple [.Name x px, .Name y py] kt pt] (.Tuple [a, b] k2 p2) env = pure none := by
  have ne : ((some NameKind.cell == some NameKind.local) = true) = False := by decide
  unfold swappedStores
  simp only [hb, hs, Expr.pos, List.head?_cons, Option.map_some, Option.getD_some, List.length_cons, List.length_nil]
  simp only [List.any_cons, List.any_nil, Bool.or_false, Bool.or_eq_false_iff] at hs
  rcases hx with hx | hx <;> rcases hy with hy | hy
  · rw [hx, hy] at hn
    rcases hn with z | z <;> cases z
  · simp [hx, hy, List.filterMap_cons]
  · by_cases hl : py.line = px.line
    · simp [hx, hy, List.filterMap_cons, hl]
    · simp [hx, hy, List.filterMap_cons, hl]
  · simp [hx, hy, List.filterMap_cons]
theorem s_un2 {i j : Nat} {px py pt p2 : Pos} {kt k2 : Nat} (hX : Con c X) (g : Go M0 M H0 K0 H K) (er : Errs c M0 H0 K0 W) (hi : IsN c (.Name x px) i) (hj : IsN c (.Name y py) j) (he : Ev c M M1 (.Tuple [a, b] k2 p2) st H P W)
    (q : ∀ v H' K', Go M0 M1 H0 K0 H' K' → Go M M1 H K H' K' → P v H' → ∃ p u w, v = .ref p ∧ H' p = some (.tup [u, w]) ∧ D.nx ((st.set i (some u)).set j (some w)) K')
    (hn : c.sc.names.lookup x = some .cell ∨ c.sc.names.lookup y = some .cell) (hs : ([a, b].any fun | .Starred .. => true | _ => false) = false := by rfl)
    (hsw : ∀ env, swapsWithSole [.Tuple [.Name x px, .Name y py] kt pt] (.Tuple [a, b] k2 p2) pos.line env = pure false := by intro _; rfl) : cS X (.Assign [.Tuple [.Name x px, .Name y py] kt pt] (.Tuple [a, b] k2 p2) pos) D st K := by
  have hX' := hX
  have gx := isN_pg hi hX
  have gy := isN_pg hj hX
  obtain ⟨_, _, e1, _, lx, _⟩ := hi
  obtain ⟨_, _, e2, _, ly, _⟩ := hj
  cases e1
  cases e2
  cases hX' with
  | mk _ k' Wx fa hr hc hp ht hf hN hU =>
    intro pins s I
    have hk : X.env.blockKind = .function := by
      have z : X.env.scope.kind = .function := I.ok.kind
      unfold Env.blockKind
      rw [z]
      rfl
    refine cS_of (ps_asg cE_pe (pg_tup hc (pgs_cons gx (pgs_cons gy pgs_nil))) (hsw _) (sw_half hk lx ly hn hs)) ?_ pins s I
    refine he.run X hX K g.j _ (fun v H' K' g' pv => ?_) (fun Mx cls d H' K' g' w => er Mx cls d st H' K' (g.trans g') w)
    obtain ⟨p, u, w, rfl, h2, h3⟩ := q v H' K' (g.trans g') g' pv
    exact ⟨p, [u, w], rfl, SqT.of (g'.j.le.tup h2), rfl, u, [w], rfl, w, [], rfl, rfl, h3⟩
theorem sw_lcCell {elt : Expr} {gs : List Comprehension} {scope : Scope} {py : Pos} {l : Nat} {env : Env} (hy : env.kindOf y = some .cell) : swapsWith (.ListComp elt gs scope pos) (some (.Name y py)) l env = pure false := by
  unfold swapsWith
  simp [hy]
  rw [show (NameKind.cell == NameKind.local) = false from rfl, Bool.and_false, Bool.false_and, Bool.false_and]
/-- name = [..], the name one that another comprehension reads -/
theorem s_setLcC {elt : Expr} {gs : List Comprehension} {scope : Scope} {p2 : Pos} {i : Nat} (hX : Con c X) (g : Go M0 M H0 K0 H K) (er : Errs c M0 H0 K0 W) (hi : StoreN c x i) (hc2 : c.sc.names.lookup x = some .cell) (he : Ev c M M1 (.ListComp elt gs scope p2) st H P W)
    (k : ∀ v H' K', Go M0 M1 H0 K0 H' K' → Go M M1 H K H' K' → P v H' → D.nx (st.set i (some v)) K') : cS X (.Assign [.Name x p1] (.ListComp elt gs scope p2) pos) D st K := by
  have hX' := hX
  cases hX' with
  | mk _ k' Wx fa hr hc hp ht hf hN hU =>
    obtain ⟨h1, h2, h3⟩ := hi
    refine cS_of (ps_set hN h1 h2 cE_pe (sw_lcCell hc2) (h3.imp (fun z => hf z x) id)) ?_
    exact he.run X hX K g.j _ (fun v H' K' g' p => k v H' K' (g.trans g') g' p) (fun Mx cls d H' K' g' w => er Mx cls d st H' K' (g.trans g') w)
end
end Z

/-! Ya: walking lists and tuples, unpacking tuples, while an exception is handled. -/
namespace HotX
open PySem PySem.Spec PyProof.Rows L2 L2H
section
variable {prog : Program} {w : World} {A : Around} {E : Value → Shared → Prop} {s : Shared}
theorem hot_list_end {it l x1 : Addr} {i : Nat} {items} {Q : Option Value → Shared → Prop} (hot : HotAt A x1 s.heap) (hx1 : x1 ≠ it)
    (hit : s.heap.IsListIter it l i) (hl : s.heap.IsList l items) (hx : items[i]? = none)
    (hQ : ∀ h', Heap.ExtBut it s.heap h' → Q none { s with heap := h' }) : wpAny (model prog w) A (pyNext (.ref it)) Q E s := by
  obtain ⟨hh, o1, vs1, h1, d1, c1⟩ := hot
  obtain ⟨o, ho, hc, hd⟩ := id hit
  obtain ⟨ol, hol, _, nl, hdl⟩ := hl
  unfold pyNext
  refine wpAny_bind (wpAny_attempt (wpAny_callSpecial?_slot (name := Str.ofString "__next__") hit.typeIs slot_listiter_next
    (wpAny_call_entry slot_listiter_next hit.typeIs entry_listiter_next ?_ (args_listiter_next _))))
  show wpAny _ _ (field (.ref it) 0 >>= _) _ _ s
  refine wpAny_bind (wpAny_field ho hd (x := .ref l) rfl ?_)
  show wpAny _ _ (if (Value.ref l == Value.none) = true then _ else _) _ _ s
  rw [if_neg (show ¬ ((Value.ref l == Value.none) = true) from Bool.false_ne_true)]
  show wpAny _ _ (field (.ref it) 1 >>= _) _ _ s
  refine wpAny_bind (wpAny_field ho hd (x := .int i 0) rfl ?_)
  show wpAny _ _ (seqItems? (.ref l) >>= _) _ _ s
  refine wpAny_bind (wpAny_seqItems hol hdl ?_)
  simp only [Int.toNat_natCast, hx]
  refine wpAny_bind (wpAny_rule (wpAny_bind (wpAny_setField ho hd (by simp) ?_)))
  show wpAny _ _ (newExc (.type "StopIteration") [] >>= _) _ _ _
  refine wpAny_bind ?_
  simp only [newExc, newTuple]
  refine wpAny_bind (wpAny_newObj_type ?_ (by size_fits))
  refine wpAny_bind (m := firstArgMember _ _) (wpAny_of_eq (a := Value.none) (by first | rfl | (simp only [firstArgMember]; rfl)) ?_)
  refine wpAny_newObj_type ?_ (by size_fits)
  have k1 : ∀ {f : Obj → Obj}, (s.heap.update it f).get? x1 = some o1 := fun {f} => by rw [Heap.get?_update_other _ _ hx1.symm]; exact h1
  refine raiseNew_hot ⟨hh, o1, vs1, Heap.get?_push_of_some _ (Heap.get?_push_of_some _ k1), d1, c1⟩ (Nat.ne_of_lt (Heap.lt_size (Heap.get?_push_of_some _ k1))) (Heap.get?_push_size _ rfl) rfl (by first | (simp; done) | (simp; omega) | (simp only [Array.size_append]; simp; omega)) ?_
  refine wpAny_bind (wpAny_isInstance (T := "StopIteration") (b := true) ⟨_, Heap.get?_update_self _ (Heap.get?_push_size _ rfl) rfl, rfl⟩ isSubtype_stop ?_)
  refine wpAny_pure (hQ _ fun b o' hb e => ?_)
  have k2 : ∀ {f : Obj → Obj}, (s.heap.update it f).get? b = some o' := fun {f} => by rw [Heap.get?_update_other _ _ (Ne.symm hb)]; exact e
  rw [Heap.get?_update_other _ _ (Nat.ne_of_gt (Heap.lt_size (Heap.get?_push_of_some _ k2)))]
  exact Heap.get?_push_of_some _ (Heap.get?_push_of_some _ k2)
theorem hot_tuple_end {it t x1 : Addr} {i : Nat} {items} {Q : Option Value → Shared → Prop} (hot : HotAt A x1 s.heap) (hx1 : x1 ≠ it)
    (hit : IsTupIter s.heap it t i) (ht : IsTup s.heap t items) (hx : items[i]? = none)
    (hQ : ∀ h', Heap.ExtBut it s.heap h' → Q none { s with heap := h' }) : wpAny (model prog w) A (pyNext (.ref it)) Q E s := by
  obtain ⟨hh, o1, vs1, h1, d1, c1⟩ := hot
  obtain ⟨o, ho, hc, hd⟩ := id hit
  obtain ⟨ol, hol, _, nl, hdl⟩ := ht
  unfold pyNext
  refine wpAny_bind (wpAny_attempt (wpAny_callSpecial?_slot (name := Str.ofString "__next__") hit.typeIs slot_tupleiter_next
    (wpAny_call_entry slot_tupleiter_next hit.typeIs entry_tupleiter_next ?_ (args_tupleiter_next _))))
  show wpAny _ _ (field (.ref it) 0 >>= _) _ _ s
  refine wpAny_bind (wpAny_field ho hd (x := .ref t) rfl ?_)
  show wpAny _ _ (if (Value.ref t == Value.none) = true then _ else _) _ _ s
  rw [if_neg (show ¬ ((Value.ref t == Value.none) = true) from Bool.false_ne_true)]
  show wpAny _ _ (field (.ref it) 1 >>= _) _ _ s
  refine wpAny_bind (wpAny_field ho hd (x := .int i 0) rfl ?_)
  show wpAny _ _ (seqItems? (.ref t) >>= _) _ _ s
  refine wpAny_bind (wpAny_seqItems hol hdl ?_)
  simp only [Int.toNat_natCast, hx]
  refine wpAny_bind (wpAny_rule (wpAny_bind (wpAny_setField ho hd (by simp) ?_)))
  show wpAny _ _ (newExc (.type "StopIteration") [] >>= _) _ _ _
  refine wpAny_bind ?_
  simp only [newExc, newTuple]
  refine wpAny_bind (wpAny_newObj_type ?_ (by size_fits))
  refine wpAny_bind (m := firstArgMember _ _) (wpAny_of_eq (a := Value.none) (by first | rfl | (simp only [firstArgMember]; rfl)) ?_)
  refine wpAny_newObj_type ?_ (by size_fits)
  have k1 : ∀ {f : Obj → Obj}, (s.heap.update it f).get? x1 = some o1 := fun {f} => by rw [Heap.get?_update_other _ _ hx1.symm]; exact h1
  refine raiseNew_hot ⟨hh, o1, vs1, Heap.get?_push_of_some _ (Heap.get?_push_of_some _ k1), d1, c1⟩ (Nat.ne_of_lt (Heap.lt_size (Heap.get?_push_of_some _ k1))) (Heap.get?_push_size _ rfl) rfl (by first | (simp; done) | (simp; omega) | (simp only [Array.size_append]; simp; omega)) ?_
  refine wpAny_bind (wpAny_isInstance (T := "StopIteration") (b := true) ⟨_, Heap.get?_update_self _ (Heap.get?_push_size _ rfl) rfl, rfl⟩ isSubtype_stop ?_)
  refine wpAny_pure (hQ _ fun b o' hb e => ?_)
  have k2 : ∀ {f : Obj → Obj}, (s.heap.update it f).get? b = some o' := fun {f} => by rw [Heap.get?_update_other _ _ (Ne.symm hb)]; exact e
  rw [Heap.get?_update_other _ _ (Nat.ne_of_gt (Heap.lt_size (Heap.get?_push_of_some _ k2)))]
  exact Heap.get?_push_of_some _ (Heap.get?_push_of_some _ k2)
theorem hot_unpackItems {t x1 : Addr} {items : Array Value} {Q : List Value → Shared → Prop} (hot : HotAt A x1 s.heap) (ht : IsTup s.heap t items)
    (hQ : ∀ h', Heap.ExtBut s.heap.objs.size s.heap h' → Q items.toList { s with heap := h' }) : wpAny (model prog w) A (unpackItems (.ref t) items.size none) Q E s := by
  have hlt : t ≠ s.heap.objs.size := by obtain ⟨o, ho, _⟩ := ht; exact Nat.ne_of_lt (Heap.lt_size ho)
  obtain ⟨hh, o1, vs1, h1, d1, c1⟩ := hot
  have hx1 : x1 ≠ s.heap.objs.size := Nat.ne_of_lt (Heap.lt_size h1)
  unfold unpackItems
  refine wpAny_bind ?_
  · unfold notIterableAtAll
    refine wpAny_bind (wpAny_specialOf ht.typeIs slot_tuple_iter.lookup ?_)
    refine wpAny_pure ?_
    simp only [Bool.false_eq_true, if_false]
    refine wpAny_bind (wpAny_holding (iter_tuple ht ?_))
    refine wpAny_bind (wpAny_holding (draw_tuple hlt items.size 0 _ _ ⟨_, Heap.get?_push_size _ rfl, rfl, rfl⟩ (ht.push _) (by omega) fun h₁ hit₁ hs₁ => ?_))
    have hall : List.take items.size (List.drop 0 items.toList) = items.toList := by
      rw [List.drop_zero]; exact List.take_of_length_le (by simp)
    rw [hall]
    rw [if_neg (by simp)]
    have ht₁ : IsTup h₁ t items := (ht.push _).extBut hs₁.extBut hlt
    have hot₁ : HotAt A x1 h₁ := ⟨hh, o1, vs1, hs₁.extBut _ _ hx1 (Heap.get?_push_of_some _ h1), d1, c1⟩
    refine wpAny_bind (wpAny_holding (hot_tuple_end hot₁ hx1 hit₁ ht₁ (by simp) fun h₂ he₂ => ?_))
    simp only [Option.isSome_none, Bool.false_eq_true, if_false]
    refine wpAny_pure (hQ h₂ fun b o hb e => he₂ b o hb (hs₁.extBut b o hb (Heap.get?_push_of_some _ e)))
theorem hot_unpack {t x1 : Addr} {items : Array Value} {targets : List (Bool × (Value → Sem Unit))} {Q : Unit → Shared → Prop} (hot : HotAt A x1 s.heap) (ht : IsTup s.heap t items)
    (hn : targets.length = items.size) (hstar : targets.findIdx? (·.1) = none)
    (h : ∀ h', Heap.ExtBut s.heap.objs.size s.heap h' → wpAny (model prog w) A (assignInOrder (targets.map (·.2)) items.toList) Q E { s with heap := h' }) :
    wpAny (model prog w) A (unpack (.ref t) targets) Q E s := by
  unfold unpack
  rw [hn, hstar]
  exact wpAny_bind (wpAny_holding (hot_unpackItems hot ht h))
end
section
variable {X : Cx} {pos : Pos}
theorem pg_tupH {es : List Expr} {k : Nat} {t : TGs} {n : Nat} (hc : HotC X) (h : PGs X es t)
    (hn : (assignEach es X.env).length = n := by rfl) (hst : (assignEach es X.env).findIdx? (·.1) = none := by rfl) : PG X (.Tuple es k pos) (gTup X.K n t) := by
  refine ⟨fun pins s σ H v u Q I r hw => ?_⟩
  obtain ⟨a, xs, e1, hq, hl, hw⟩ := hw
  subst e1
  cases r
  obtain ⟨its, rv, ht, hz⟩ := I.tuple hq
  obtain ⟨x1, hot⟩ := hc.at I
  rw [assign_Tuple]
  refine wpAny_bind (wpAny_standAt (hot_unpack hot ht (by simp [hn, ← hl, rv.length]) hst fun h' hx => ?_))
  have I1 : Inv X pins σ H { s with heap := h' } := I.kept (t' := s.toks) fun b o e => hx b o (Nat.ne_of_lt (Heap.lt_size e)) e
  exact h.run pins _ σ H xs _ Q I1 (by simpa using rv) hw
/-- what a hot context knows stands apart from an iterator -/
theorem hot_ne {pins : List (Addr × Obj)} {σ : L2.St} {H : Hp} {s : Shared} {p : Addr × Obj} {it : Addr} (I : Inv X pins σ H s) (hp : p ∈ X.pn) (hf : FpOk X pins H it) : p.1 ≠ it := by
  obtain ⟨_, _, _, _, _, f⟩ := hf
  exact f p (List.mem_append_left _ hp)
theorem turn_listH {P : Program} {w : World} {K : PySem.W.Frag} {tg : Expr} (a it : Addr) : TurnH P w K tg (Itl K a) [it] it (fun i h => h.IsListIter it a i) where
  mem := (turn_list (P := P) (w := w) (K := K) (tg := tg) a it).mem
  obj := (turn_list (P := P) (w := w) (K := K) (tg := tg) a it).obj
  keep := (turn_list (P := P) (w := w) (K := K) (tg := tg) a it).keep
  item := by
    intro X hP hw hK hc i pins s σ H E I hf st hg
    subst hP hw hK
    obtain ⟨xs, x, hq, hx⟩ := hg
    obtain ⟨its, rv, p, hz⟩ := I.list hq
    obtain ⟨u, hu, ru⟩ := rv.get hx
    obtain ⟨f0, f1, f2, f3, f4, f5⟩ := hf it (by simp)
    refine wpAny_pyNext_list_item st p.isList (x := u) (by simpa using hu) fun h' st' sb => ?_
    have I1 : Inv X pins σ H { s with heap := h' } := I.turned (t' := s.toks) (fun b o hb e => (sb.2 b hb).trans e) f0 f1 f3 f4 f5
    obtain ⟨o, e, c, d⟩ := id st'
    exact ⟨u, rfl, go_of (s := { s with heap := h' }) e c d (by decide) ⟨x, H, I1, ru, ⟨rfl, fun ys hy => by rw [I.list_inj hy hq]; exact hx⟩, st', fun b hb => (hf b hb).1⟩⟩
  done := by
    intro X hP hw hK hc i pins s σ H E I hf st hg
    subst hP hw hK
    obtain ⟨xs, hq, hx⟩ := hg
    obtain ⟨its, rv, p, hz⟩ := I.list hq
    obtain ⟨f0, f1, f2, f3, f4, f5⟩ := hf it (by simp)
    have hl := rv.length
    obtain ⟨q, ⟨hh, v1, e1, c1⟩, hp⟩ := hc
    have z := (I.pin q (List.mem_append_left _ hp)).1
    exact hot_list_end ⟨hh, q.2, v1, z, e1, c1⟩ (f5 q (List.mem_append_left _ hp)) st p.isList (by simp; omega) fun h' eb => ⟨rfl, I.turned (t' := s.toks) (fun b o hb e => eb b o hb e) f0 f1 f3 f4 f5⟩
  self := fun _ _ _ _ _ st h => wpAny_pyIter_listiter st h
theorem pi_listH {tg l : Expr} {tl : L2.TE} (hl : PE X l tl) : PIH X tg l (iList X.K tl) := by
  refine ⟨fun pins s σ H R I h => ?_⟩
  refine thn (hl.run pins s σ H _ I h) fun v s1 ⟨x, H1, I1, r1, q1⟩ => ?_
  obtain ⟨a, e, ⟨xs, hq⟩, q⟩ := q1
  subst e
  cases r1
  obtain ⟨its, rv, p, hz⟩ := I1.list hq
  refine wpAny_pyIter_list p.isList ?_
  refine ⟨s1.heap.objs.size, [s1.heap.objs.size], _, _, H1, rfl, I1.kept (t' := s1.toks) fun b o e => Heap.get?_push_of_some _ e, turn_listH a _, ⟨_, Heap.get?_push_size _ rfl, rfl, rfl⟩, fun b hb => ?_, q⟩
  have e : b = s1.heap.objs.size := by simpa using hb
  subst e
  exact I1.fpOk (Nat.le_refl _) (I1.hok.fresh (Nat.le_refl _))
end
end HotX

/-! Yc: contexts, where nothing is handled (hp = none) or an exception that is known (hp = some p); the promises of defs. -/
namespace Y
open PySem PySem.Spec PyProof.Rows L2 L2H SX Z HotX
abbrev HP := Option (Addr × Obj)
structure Ct where
  P : Program
  w : World
  K : PySem.W.Frag
  mg : Str → Option Value
  base : Heap
  N : List Str
  sc : Scope
  k : Nat
  Wx : WX
  fa : Bool
  hp : HP
inductive Con : Ct → Cx → Prop
  | mk (X : Cx) (k : Nat) (Wx : WX) (fa : Bool) (hp : HP) (hrH : RoomH k X.A) (hcf : hp = none → X.calm = true ∧ Room k X.A) (hh : ∀ p, hp = some p → Hot1 X.A p ∧ p ∈ X.pn) (hpo : PassesOwn (model X.prog X.w) X.A X.env X.xe) (ht : L2N.Takes X Wx) (hf : fa = true → ∀ x, X.fn x = true) (hN : X.N.Nodup) (hG : X.A.guards = some [])
      (hst : fa = true → X.stack = X.env :: X.outer ∧ X.env.frame = some X.env.locals ∧ X.ex = []) :
    Con ⟨X.prog, X.w, X.K, X.mg, X.base, X.N, X.env.scope, k, Wx, fa, hp⟩ X
abbrev GlS (c : Ct) (x : Str) : Prop := c.sc.names.lookup x = some .globalImplicit
/-- nothing is handled -/
class Calm (c : Ct) : Prop where
  h : c.hp = none
instance calm1 {P : Program} {w : World} {K : PySem.W.Frag} {mg : Str → Option Value} {base : Heap} {N : List Str} {sc : Scope} {k : Nat} {Wx : WX} {fa : Bool} : Calm ⟨P, w, K, mg, base, N, sc, k, Wx, fa, none⟩ := ⟨rfl⟩
instance calm2 {c : Ct} [Calm c] {P : Program} {w : World} {K : PySem.W.Frag} {mg : Str → Option Value} {base : Heap} {N : List Str} {sc : Scope} {k : Nat} {Wx : WX} {fa : Bool} : Calm ⟨P, w, K, mg, base, N, sc, k, Wx, fa, c.hp⟩ := ⟨Calm.h (c := c)⟩
/-- a hot context knows its exception -/
theorem hotC_of {X : Cx} {p : Addr × Obj} (h : Hot1 X.A p ∧ p ∈ X.pn) : HotC X := ⟨p, h.1, h.2⟩

/-! ### blocks of comprehensions -/
abbrev Ct.blk (c : Ct) (scope : Scope) : Ct := ⟨c.P, c.w, c.K, c.mg, c.base, c.N, relS scope c.sc, c.k, fun _ _ _ _ => False, false, c.hp⟩
abbrev blkQ (X : Cx) (hp : HP) (s0 : Shared) (H0 : Hp) (scope : Scope) (cenv : Env) (fp : List Addr) : Cx := { X.blk s0 H0 scope cenv fp with pn := hp.toList }
theorem takesN0 {X : Cx} : L2N.Takes X (fun _ _ _ _ => False) := fun _ _ x => by
  obtain ⟨_, _, _, _, _, _, _, _, _, _, _, _, _, _, _, _, z⟩ := x
  exact z.elim
theorem con_blk {X : Cx} {k : Nat} {Wx : WX} {fa : Bool} {hp : HP} {scope : Scope} (hrH : RoomH k X.A) (hcf : hp = none → X.calm = true ∧ Room k X.A) (hh : ∀ p, hp = some p → Hot1 X.A p ∧ p ∈ X.pn) (hN : X.N.Nodup) (hU : X.A.guards = some []) (s0 : Shared) (H0 : Hp) (C : Addr) (cl : List (Str × Addr)) (fp : List Addr) :
    Con (Ct.blk ⟨X.prog, X.w, X.K, X.mg, X.base, X.N, X.env.scope, k, Wx, fa, hp⟩ scope) (blkQ X hp s0 H0 scope (compEnvC scope cl C X.env) fp) :=
  Con.mk (blkQ X hp s0 H0 scope (compEnvC scope cl C X.env) fp) k (fun _ _ _ _ => False) false hp hrH hcf (fun p e => ⟨(hh p e).1, by rw [e]; exact List.mem_singleton.mpr rfl⟩) PassesOwn.never takesN0 (fun z => nomatch z) hN hU (fun z => nomatch z)

/-! ### names -/
def IsN (c : Ct) (tg : Expr) (j : Nat) : Prop := ∃ x pos, tg = .Name x pos ∧ c.N[j]? = some x ∧ Loc c.sc x ∧ (c.fa = true ∨ c.sc.names.lookup x = some .local)
theorem isN_pg {c : Ct} {tg : Expr} {j : Nat} {X : Cx} (h : IsN c tg j) (hX : Con c X) : PG X tg (gName j) := by
  obtain ⟨x, pos, rfl, h1, h2, h3⟩ := h
  cases hX with
  | mk _ k' Wx fa hpp hrH hcf hh hp' ht hf hN hU hst =>
    refine pg_name hN h1 h2 ?_
    rcases h3 with h3 | h3
    · exact .inl (hf h3 x)
    · exact .inr h3
def StoreN (c : Ct) (x : Str) (i : Nat) : Prop := c.N[i]? = some x ∧ Loc c.sc x ∧ (c.fa = true ∨ c.sc.names.lookup x = some .local)
def IsNs (c : Ct) : List Expr → List Nat → Prop
  | [], [] => True
  | e :: es, j :: js => IsN c e j ∧ IsNs c es js
  | _, _ => False
theorem pgs_names {c : Ct} {X : Cx} (hX : Con c X) : ∀ {es : List Expr} {js : List Nat}, IsNs c es js → PGs X es (gNs js) ∧ (assignEach es X.env).length = js.length ∧ (assignEach es X.env).findIdx? (·.1) = none
  | [], [], _ => ⟨pgs_nil, rfl, rfl⟩
  | e :: es, j :: js, ⟨h1, h2⟩ => by
    obtain ⟨q1, q2, q3⟩ := pgs_names hX h2
    have g := isN_pg h1 hX
    obtain ⟨x, p, rfl, _⟩ := h1
    refine ⟨pgs_cons g q1, ?_, ?_⟩
    · show (assignEach es X.env).length + 1 = js.length + 1
      rw [q2]
    · show ((false, assign (.Name x p) X.env) :: assignEach es X.env).findIdx? (·.1) = none
      rw [List.findIdx?_cons, q3]
      rfl
/-- a tuple of names, whatever is handled -/
theorem pg_tupQ {X : Cx} {hp : HP} {es : List Expr} {k : Nat} {t : TGs} {n : Nat} {pos : Pos} (hcf : hp = none → X.calm = true) (hh : ∀ p, hp = some p → Hot1 X.A p ∧ p ∈ X.pn) (h : PGs X es t)
    (hn : (assignEach es X.env).length = n) (hst : (assignEach es X.env).findIdx? (·.1) = none) : PG X (.Tuple es k pos) (gTup X.K n t) := by
  cases hp with
  | none => exact pg_tup (hcf rfl) h hn hst
  | some p => exact pg_tupH (hotC_of (hh p rfl)) h hn hst

/-! ### the promise of a def -/
structure FnC (hp : HP) (P : Program) (w : World) (F : PySem.W.Frag) (mg : Str → Option Value) (base : Heap) (k : Nat) (f : Addr) (fd : FuncData) (ps : List Str) (sp : Sp) : Prop where
  len : ∀ vs K Q E, sp vs K Q E → vs.length = ps.length
  run : ∀ A : Around, RoomH k A → (hp = none → A.handled = none) → (∀ p, hp = some p → Hot1 A p) → A.guards = some [] → ∀ outer s K, (∀ p, hp = some p → PinOk outer K s p) → Env0 P w F mg base A outer s K → ∀ args us vs, Vals vs us → BindsTo s fd args (ps.zip us) → ∀ Q E, sp vs K Q E →
    codeAny (model P w) A (.call (.ref f) args) (CR (L2N.CX P w) outer P w K s Q E) s
abbrev FnG := FnC none
theorem room_of {k : Nat} {A : Around} (r : RoomH k A) (h : A.handled = none) : Room k A := ⟨h, r.dp, r.un⟩
/-- where nothing is handled -/
theorem FnC.calm {P : Program} {w : World} {F : PySem.W.Frag} {mg : Str → Option Value} {base : Heap} {k : Nat} {f : Addr} {fd : FuncData} {ps : List Str} {sp : Sp} (h : FnG P w F mg base k f fd ps sp) (A : Around) (r : Room k A) (g : A.guards = some []) (outer : List Env) (s : Shared) (K : Hp) (e : Env0 P w F mg base A outer s K) (args : Args) (us : List Value) (vs : List V) (v : Vals vs us) (b : BindsTo s fd args (ps.zip us)) (Q : VK) (E : XK) (q : sp vs K Q E) :
    codeAny (model P w) A (.call (.ref f) args) (CR (L2N.CX P w) outer P w K s Q E) s := h.run A (roomH_of r) (fun _ => r.hd) (fun _ z => nomatch z) g outer s K (fun _ z => nomatch z) e args us vs v b Q E q
/-- the context of a def's body -/
def cxC (hp : HP) (P : Program) (w : World) (K : PySem.W.Frag) (mg : Str → Option Value) (base : Heap) (N : List Str) (qual : Str) (scope : Scope) (f : Addr) (cd : Value) (A : Around) (outer : List Env) (s : Shared) (H : Hp) (E : XK) : Cx :=
  { cxOf (L2N.CX P w) P w K mg base N qual scope f cd A outer s H E with calm := hp.isNone, pn := hp.toList }
section
variable {P : Program} {w : World} {F : PySem.W.Frag} {mg : Str → Option Value} {base : Heap} {k : Nat} {f : Addr} {fd : FuncData} {ps N : List Str} {sp : Sp} {hp : HP}
theorem fnC_of {x qual : Str} {st : Stmt} (d : Fun F x qual st f fd) (S : FnScope N ps (defScope st)) (len : ∀ vs K Q E, sp vs K Q E → vs.length = ps.length)
    (hb : ∀ (cdv : Value) (A : Around) (outer : List Env) (s : Shared) (K : Hp) (vs : List V) (Q : VK) (E : XK), RoomH k (A.deeper (envOfC qual (defScope st) s.heap.objs.size f cdv)) → (hp = none → A.handled = none) → (∀ p, hp = some p → Hot1 A p) → A.guards = some [] → sp vs K Q E →
      ∃ t, PSs (cxC hp P w F mg base N qual (defScope st) f cdv A outer s K E) (defBody st) t ∧ t { nx := fun _ K' => Q .non K', rt := Q } (start N vs) K) : FnC hp P w F mg base (k + 1) f fd ps sp := by
  obtain ⟨oc, od, kV, doc, pm, an, cdv, ct, osl, rfl, lk, hcd⟩ := d.ex
  refine ⟨len, fun A hr hA hot hG outer s K hpin e0 args us vs r b Q E h => ?_⟩
  have inn : F.In s.heap := e0.mod.kin.keeps fun a o z => (e0.bs a o z).1
  have lim := e0.mod.nolimit.keeps (h' := s.heap) fun a o z => (e0.bs a o z).1
  refine codeAny_call_function hr.depth (inn _ _ lk) rfl S.co S.gen rfl (PySem.W.codeRec_of inn hcd) (b _ _ _ _ (wpAny_newFunctionEnv_cells S.kind (bind_kinds S) fun env he s1 y => ?_))
  subst he
  obtain ⟨t, ht, q⟩ := hb cdv A outer s K vs Q E (hr.deeper _) hA hot hG h
  have I0 : Inv (cxC hp P w F mg base N qual (defScope st) f cdv A outer s K E) [] (start N vs) K s1 := by
    cases hp with
    | none => exact inv_start (CX := L2N.CX P w) (E := E) S (hA rfl) e0 (len _ _ _ _ h) r y
    | some p => exact inv_startH (CX := L2N.CX P w) (E := E) S (hpin p rfl) e0 (len _ _ _ _ h) r y
  refine ⟨lim.keeps y.toInCall.keep, codeAny_func (wpAny_mono (ht.run [] s1 (start N vs) K _ I0 q) (fun fl s2 z => ?_) fun _ _ z => z)⟩
  match fl, z with
  | .ret u, ⟨v, _, K2, J2, r2, q2⟩ => exact ⟨v, K2, J2.os, J2.bare, J2.base, J2.hok, r2, q2⟩
  | .next, ⟨_, K2, J2, q2⟩ => exact ⟨.non, K2, J2.os, J2.bare, J2.base, J2.hok, rfl, q2⟩
  | .brk, ⟨_, _, _, q2⟩ => exact q2.elim
  | .cont, ⟨_, _, _, q2⟩ => exact q2.elim
end
section
variable {X : Cx} {W : WX} {hp : HP} {k : Nat} {f : Addr} {fd : FuncData} {ps : List Str} {sp : Sp}
theorem runC {pins : List (Addr × Obj)} {st : L2.St} {K : Hp} {s : Shared} {Q : VK} {us : List Value} {vs : List V}
    (F : FnC hp X.prog X.w X.K X.mg X.base k f fd ps sp) (hr : RoomH k X.A) (hA : hp = none → X.A.handled = none) (hh : ∀ p, hp = some p → Hot1 X.A p ∧ p ∈ X.pn) (hG : X.A.guards = some []) (tk : L2N.Takes X W) (bs : Binds X.K fd ps []) (I : Inv X pins st K s) (r : Vals vs us) (h : sp vs K Q (WE W st)) :
    wpAny (model X.prog X.w) X.A (call (.ref f) us) (EP X pins st Q) X.xe s := by
  have hl : (us ++ ([] : List Value)).length = ps.length := by
    rw [List.append_nil, ← r.length]
    exact F.len _ _ _ _ h
  have b := bs s us I.kIn hl
  rw [List.append_nil] at b
  refine wpAny_call (codeAny_mono (F.run X.A hr hA (fun p e => (hh p e).1) hG X.stack s K (fun p e => ?_) I.env0 ⟨us, []⟩ us vs r b Q _ h) fun res s2 z => ?_)
  · have P1 := I.pin p (List.mem_append_left _ (hh p e).2)
    exact ⟨P1.1, P1.2.1, fun hm => (List.mem_cons.mp (I.stkSub p.1 hm)).elim P1.2.2.1 P1.2.2.2.1, P1.2.2.2.2⟩
  match res, z with
  | .error e, z => exact L2N.passAt tk st pins K s e s2 I z
  | .ok (.ret u), z => exact I.after z
  | .ok .next, z => exact z.elim
  | .ok .brk, z => exact z.elim
  | .ok .cont, z => exact z.elim
theorem runG {pins : List (Addr × Obj)} {st : L2.St} {K : Hp} {s : Shared} {Q : VK} {us : List Value} {vs : List V}
    (F : FnG X.prog X.w X.K X.mg X.base k f fd ps sp) (hr : Room k X.A) (hG : X.A.guards = some []) (tk : L2N.Takes X W) (bs : Binds X.K fd ps []) (I : Inv X pins st K s) (r : Vals vs us) (h : sp vs K Q (WE W st)) :
    wpAny (model X.prog X.w) X.A (call (.ref f) us) (EP X pins st Q) X.xe s := runC F (roomH_of hr) (fun _ => hr.hd) (fun _ z => nomatch z) hG tk bs I r h
theorem pe_callC {x : Str} {p pos : Pos} {e : Expr} {es : List Expr} {t : L2.TA}
    (F : FnC hp X.prog X.w X.K X.mg X.base k f fd ps sp) (hr : RoomH k X.A) (hA : hp = none → X.A.handled = none) (hh : ∀ p, hp = some p → Hot1 X.A p ∧ p ∈ X.pn) (hG : X.A.guards = some []) (gx : Gl X x) (hm : X.mg x = some (.ref f)) (kp : PySem.W.keepIn X.K (.ref f) = true) (bs : Binds X.K fd ps []) (tk : L2N.Takes X W) (ha : PA X (e :: es) t)
    (hdb : (x == ("__debug__" : Str)) = false) (he : starEach (e :: es) X.env = (false, eval e X.env) :: starEach es X.env) (hpl : (backTo pos (starEach es X.env)).any (·.1) = false) : PE X (.Call (.Name x p) (e :: es) [] pos) (tCallS sp (WE W) t) := by
  refine ⟨fun pins s st K Q I h => wpAny_Call_Name_kw (ld_glob I gx hm ?_ hdb)⟩
  refine PySem.W.callWith_K (h₀ := X.base) I.ok.mod.kin kp (thn (ha.run pos pins s st K _ I h) fun us s2 z => ?_) he hpl
  obtain ⟨vs, K2, I2, r2, q2⟩ := z
  exact ⟨I2.kIn, runC F hr hA hh hG tk bs I2 r2 q2⟩
end

/-! ### a list comprehension where an exception is handled -/
section
variable {X : Cx}
theorem block_startH {pins : List (Addr × Obj)} {σ : L2.St} {H : Hp} {s : Shared} {p : Addr × Obj} {scope : Scope} {own : List (Str × Nat)} {fp : List Addr} (I : Inv X pins σ H s) (hp : p ∈ X.pn) (ok : BlkOk X.N X.env.scope scope own) (hN : X.N.Nodup) (hfp : ∀ b ∈ fp, FpOk X pins H b ∧ b < s.heap.objs.size) :
    Inv (blkQ X (some p) s H scope (compEnvC scope (cellsFrom (s.heap.objs.size + 1) scope.names (cloFrom X.env.cells scope.names [])) s.heap.objs.size X.env) fp) [] (wipe σ (own.map (·.2))) H { s with heap := pushCells (s.heap.push { cls := .type "dict", data := .dict #[] }) scope.names } := by
  have J := block_start I ok hN hfp
  have P1 := I.pin p (List.mem_append_left _ hp)
  refine ⟨⟨J.ok.mod, J.ok.kind, J.ok.glob, J.ok.blt, J.ok.above, J.ok.inj, J.ok.has, J.ok.cab, J.ok.hd, J.ok.frames, J.ok.stk, J.ok.exf, J.ok.bs, J.ok.bsz, J.ok.noex, J.ok.exfs, J.ok.funs, J.ok.frf⟩, J.os, J.bare, J.base, J.loc, J.cell, J.free, J.freeC, fun q hq => ?_, J.hok, J.len⟩
  have eq : q = p := by simpa using (show q ∈ [p] ++ ([] : List (Addr × Obj)) from hq)
  rw [eq]
  exact ⟨pushCells_keeps _ _ _ _ (Heap.get?_push_of_some _ P1.1), P1.2.1, Nat.ne_of_lt (Heap.lt_size P1.1), fun hm => (List.mem_cons.mp (I.stkSub p.1 hm)).elim P1.2.2.1 P1.2.2.2.1, P1.2.2.2.2⟩
/-- over a list: the new list D, the iterator behind the list's own value -/
theorem lc_hot {p : Addr × Obj} {pins : List (Addr × Obj)} {s : Shared} {σ : L2.St} {H : Hp} {Q : VK} {use : Option (Value → Sem Unit)} {Qf : Value → Shared → Prop} {pos' : Pos} {elt tg iter : Expr} {ifs : List Expr} {scope : Scope} {own : List (Str × Nat)} {pos : Pos} {tl : L2.TE} {g : L2.TG} {tt : L2.TT} {te : L2.TE} (hot : Hot1 X.A p ∧ p ∈ X.pn) (hN : X.N.Nodup) (hl : PE X iter tl) (ok : BlkOk X.N X.env.scope scope own)
    (hg : ∀ (s : Shared) (H : Hp) (C : Addr) (cl : List (Str × Addr)) (fp : List Addr), PG (blkQ X (some p) s H scope (compEnvC scope cl C X.env) fp) tg g) (ht : ∀ (s : Shared) (H : Hp) (C : Addr) (cl : List (Str × Addr)) (fp : List Addr), PTs (blkQ X (some p) s H scope (compEnvC scope cl C X.env) fp) ifs tt)
    (he : ∀ (s : Shared) (H : Hp) (C : Addr) (cl : List (Str × Addr)) (fp : List Addr), PE (blkQ X (some p) s H scope (compEnvC scope cl C X.env) fp) elt te) (hs : ∀ x, foldedSetIterable iter X.env x = pure x) (I : Inv X pins σ H s) (h : tLc (iList X.K tl) g tt te (own.map (·.2)) σ H Q)
    (hRR : ∀ D C s' m H', Inv X pins σ H' s' → Q (.ref D) H' → s'.heap.Ns C m → FpOk X pins H' C → compPost (model X.prog X.w) X.A X.xe use Qf (.ref D) C (.ok .next) s') :
    wpAny (model X.prog X.w) X.A (comprehension (.ListComp elt [⟨tg, iter, ifs, 0⟩] scope pos) scope X.env pos' (newList []) false (eval iter X.env) use) Qf X.xe s := by
  have cl : ∀ y ∈ scope.names, y.2 = .free → ∃ c, X.env.cells.lookup y.1 = some c := fun y hy e => (ok.free y hy e).elim (fun k => I.ok.has _ (.inl k)) fun k => I.ok.has _ (.inr k)
  refine wpAny_comprehension_free (use := use) rfl hs (closure_ok cl) ok.kind (fun y hy e => by rw [ok.uniq y hy, e]) (thn (hl.run pins s σ H _ I h) fun v s1 ⟨x, H1, I1, r1, a, ea, ⟨xs, hq⟩, q⟩ => ?_)
  subst ea
  cases r1
  obtain ⟨its, rv, lst, _⟩ := I1.list hq
  refine wpAny_pyIter_list lst.isList (wpAny_newObj_type (newEnv_comp ?_) (by show 0 ≤ sizeLine; decide))
  -- the iterator
  generalize hit : s1.heap.objs.size = it
  generalize hs2 : ({ s1 with heap := s1.heap.push { cls := .type "list_iterator", data := .fields #[.ref a, .int 0 0] } } : Shared) = s2
  have e2 : s2.heap = s1.heap.push { cls := .type "list_iterator", data := .fields #[.ref a, .int 0 0] } := by rw [← hs2]
  have I2 : Inv X pins σ H1 s2 := by rw [← hs2]; exact I1.kept (t' := s1.toks) fun b o e => Heap.get?_push_of_some _ e
  have t2 : s2.heap.IsListIter it a 0 := by rw [e2, ← hit]; exact ⟨_, Heap.get?_push_size _ rfl, rfl, rfl⟩
  have f2 : FpOk X pins H1 it := I1.fpOk (Nat.le_of_eq hit) (I1.hok.fresh (Nat.le_of_eq hit))
  have lt2 : it < s2.heap.objs.size := by rw [e2, Heap.size_push, hit]; exact Nat.lt_succ_self _
  -- the new list
  generalize hD : s2.heap.objs.size = D
  have nD : H1 D = none := I2.hok.fresh (Nat.le_of_eq hD)
  obtain ⟨W, ⟨m0, w0⟩, turn⟩ := q D nD
  generalize hs3 : ({ s2 with heap := s2.heap.push { cls := .type "list", data := .seq ([] : List Value).toArray } } : Shared) = s3
  have e3 : s3.heap = s2.heap.push { cls := .type "list", data := .seq ([] : List Value).toArray } := by rw [← hs3]
  have I3 : Inv X pins σ (upd H1 D (.lst [])) s3 := by
    rw [← hs3]
    refine I2.laid (t' := s2.toks) (fun b o e => Heap.get?_push_of_some _ e) (Nat.le_of_eq hD) ⟨Nat.zero_le _, [], 0, .nil, ?_⟩
    rw [← hD]
    exact Heap.get?_push_size _ rfl
  have iD : it ≠ D := by rw [← hD]; exact Nat.ne_of_lt lt2
  have n3 : (upd H1 D (.lst [])) it = none := by rw [upd_ne iD]; exact f2.1
  have t3 : s3.heap.IsListIter it a 0 := t2.at fun o e => by rw [e3]; exact Heap.get?_push_of_some _ e
  have fr : FpOk X pins (upd H1 D (.lst [])) it := ⟨n3, f2.2⟩
  have lt3 : it < s3.heap.objs.size := by rw [e3, Heap.size_push]; exact Nat.lt_succ_of_lt lt2
  have I4 := block_startH I3 hot.2 ok hN (fp := [it]) fun b hb => by rw [List.mem_singleton.mp hb]; exact ⟨fr, lt3⟩
  have pg := hg s3 (upd H1 D (.lst [])) s3.heap.objs.size (cellsFrom (s3.heap.objs.size + 1) scope.names (cloFrom X.env.cells scope.names [])) [it]
  have pt := ht s3 (upd H1 D (.lst [])) s3.heap.objs.size (cellsFrom (s3.heap.objs.size + 1) scope.names (cloFrom X.env.cells scope.names [])) [it]
  have pe := he s3 (upd H1 D (.lst [])) s3.heap.objs.size (cellsFrom (s3.heap.objs.size + 1) scope.names (cloFrom X.env.cells scope.names [])) [it]
  show codeAny _ _ (.compStart (.ListComp elt [⟨tg, iter, ifs, 0⟩] scope pos) 0 (.ref it) (.ref D) (compEnvC scope (cellsFrom (s3.heap.objs.size + 1) scope.names (cloFrom X.env.cells scope.names [])) s3.heap.objs.size X.env)) (compPost (model X.prog X.w) X.A X.xe use Qf (.ref D) s3.heap.objs.size) { s3 with heap := pushCells (s3.heap.push { cls := .type "dict", data := .dict #[] }) scope.names }
  generalize hce : compEnvC scope (cellsFrom (s3.heap.objs.size + 1) scope.names (cloFrom X.env.cells scope.names [])) s3.heap.objs.size X.env = ce at I4 pg pt pe ⊢
  have cL : ce.locals = s3.heap.objs.size := by subst hce; rfl
  generalize hH3 : upd H1 D (.lst []) = H3 at I3 I4 pg pt pe w0 n3 fr
  generalize hs4 : ({ s3 with heap := pushCells (s3.heap.push { cls := .type "dict", data := .dict #[] }) scope.names } : Shared) = s4 at I4 ⊢
  have t4 : s4.heap.IsListIter it a 0 := t3.at fun o e => by rw [← hs4]; exact pushCells_keeps _ _ _ _ (Heap.get?_push_of_some _ e)
  have T := turn_listH (P := X.prog) (w := X.w) (K := X.K) (tg := tg) a it
  have hotB : HotC (blkQ X (some p) s3 H3 scope ce [it]) := ⟨p, hot.1, List.mem_singleton.mpr rfl⟩
  have fpB : ∀ {σ' : L2.St} {H' : Hp} {s' : Shared}, Inv (blkQ X (some p) s3 H3 scope ce [it]) [] σ' H' s' → H' it = none → ∀ b ∈ [it], FpOk (blkQ X (some p) s3 H3 scope ce [it]) [] H' b := fun {σ' H' s'} J n b hb => by
    rw [List.mem_singleton.mp hb]
    have m1 : it ∈ (blkQ X (some p) s3 H3 scope ce [it]).ex := List.mem_singleton.mpr rfl
    refine ⟨n, (J.ok.exf it m1).1, J.ok.exfs it m1, .inl m1, fun x c e => (J.ok.exf it m1).2 x c e, fun u hu => ?_⟩
    have : u = p := by simpa using (show u ∈ [p] ++ ([] : List (Addr × Obj)) from hu)
    rw [this]
    exact fr.2.2.2.2.2 p (List.mem_append_left _ hot.2)
  have loop : codeAny (model X.prog X.w) X.A (.compLoop (.ListComp elt [⟨tg, iter, ifs, 0⟩] scope pos) 0 (.ref it) (.ref D) ce) (compPost (model X.prog X.w) X.A X.xe use Qf (.ref D) s3.heap.objs.size) s4 := by
    refine compLoop_any (fun n s' => ∃ i H', Inv (blkQ X (some p) s3 H3 scope ce [it]) [] (wipe σ (own.map (·.2))) H' s' ∧ s'.heap.IsListIter it a i ∧ H' it = none ∧ W i n H') ?_ m0 ⟨0, H3, I4, t4, n3, w0⟩
    rintro n s5 ⟨i, H5, I5, t5, n5, w5⟩
    rcases turn i n H5 w5 with ⟨stop, done⟩ | ⟨go, Nx, less, step⟩
    · have td := T.done (blkQ X (some p) s3 H3 scope ce [it]) rfl rfl rfl hotB i [] s5 _ H5 (fun _ _ => False) I5 (fpB I5 n5) t5 stop
      refine thnF td fun r s6 ⟨hr, I6⟩ => ?_
      subst hr
      have I7 : Inv X pins σ H5 s6 := I3.call' (ch := [it]) I6.os I6.base I6.hok I6.bare fun b hb => by
        rw [List.mem_singleton.mp hb]
        exact ⟨fr.2.2.2.1, fr.2.1, fr.2.2.2.2.1, fr.2.2.2.2.2⟩
      have nC : H5 s3.heap.objs.size = none := by
        have z : H5 ce.locals = none := I6.free
        rwa [cL] at z
      obtain ⟨m, hn, _⟩ := I6.loc
      have hn : s6.heap.Ns ce.locals m := hn
      rw [cL] at hn
      exact hRR D s3.heap.objs.size s6 m H5 I7 done hn (I3.fpOk (H' := H5) (Nat.le_refl _) nC)
    · have ti := T.item (blkQ X (some p) s3 H3 scope ce [it]) rfl rfl rfl hotB i [] s5 _ H5 (fun _ _ => False) I5 (fpB I5 n5) t5 go
      refine thnF ti fun r s6 ⟨u, hr, h6⟩ => ?_
      subst hr
      refine thnF h6 fun _ s7 ⟨x, H7, I7, r7, y7, t7, n7⟩ => ?_
      obtain ⟨o7, g7, _, d7⟩ := id t7
      have I8 := I7.pinned (fpB I7 (n7 it (List.mem_singleton.mpr rfl))) fun b hb => by rw [List.mem_singleton.mp hb]; exact ⟨o7, g7, fun v z => by rw [d7] at z; cases z⟩
      have mp := mem_pinsAt (fp := [it]) (List.mem_singleton.mpr rfl) g7
      have fin : ∀ {s' : Shared} {σ8 : L2.St} {H' : Hp}, wipe σ8 (own.map (·.2)) = wipe σ (own.map (·.2)) → Inv (blkQ X (some p) s3 H3 scope ce [it]) ([] ++ pinsAt [it] s7.heap) σ8 H' s' → Nx H' → ∃ m, m < n ∧ ∃ i H', Inv (blkQ X (some p) s3 H3 scope ce [it]) [] (wipe σ (own.map (·.2))) H' s' ∧ s'.heap.IsListIter it a i ∧ H' it = none ∧ W i m H' := fun {s' σ8 H'} hw J nx => by
        obtain ⟨m', hm, w'⟩ := less H' nx
        have z := J.pin (it, o7) (List.mem_append_right _ (List.mem_append_right _ mp))
        have hl : (wipe σ (own.map (·.2))).length = σ8.length := by rw [← hw, wipe_length]
        refine ⟨m', hm, i + 1, H', (J.unpinned (pins := [])).weak hl (fun j v e => ?_), t7.at fun o e => ?_, z.2.1, w'⟩
        · rw [← hw] at e
          exact (wipe_some e).1
        · rw [g7] at e
          cases e
          exact z.1
      refine thnF (pg.run _ s7 _ H7 x u _ I8 r7 (step x H7 y7)) fun _ s8 ⟨σ8, H8, I9, hw8, q8⟩ => ?_
      refine thnF (pt.run _ s8 σ8 H8 _ I9 q8) fun b s9 ⟨H9, I10, q9⟩ => ?_
      cases b with
      | false =>
        simp only [Bool.false_eq_true, if_false] at q9 ⊢
        exact fin hw8 I10 q9
      | true =>
        simp only [if_true] at q9 ⊢
        refine thnF (pe.run _ s9 σ8 H9 _ I10 q9) fun z s10 ⟨yv, H10, I11, r10, acc, hD10, hz10, nx⟩ => ?_
        exact app_ok (X := blkQ X (some p) s3 H3 scope ce [it]) I11 hD10 hz10 r10 fun s11 I12 => fin hw8 I12 nx
  exact codeAny_compStart_list loop (wpAny_pyIter_listiter t4 loop)
theorem pe_lcHot {p : Addr × Obj} {elt tg iter : Expr} {ifs : List Expr} {scope : Scope} {own : List (Str × Nat)} {pos : Pos} {tl : L2.TE} {g : L2.TG} {tt : L2.TT} {te : L2.TE} (hot : Hot1 X.A p ∧ p ∈ X.pn) (hN : X.N.Nodup) (hl : PE X iter tl) (ok : BlkOk X.N X.env.scope scope own)
    (hg : ∀ (s : Shared) (H : Hp) (C : Addr) (cl : List (Str × Addr)) (fp : List Addr), PG (blkQ X (some p) s H scope (compEnvC scope cl C X.env) fp) tg g) (ht : ∀ (s : Shared) (H : Hp) (C : Addr) (cl : List (Str × Addr)) (fp : List Addr), PTs (blkQ X (some p) s H scope (compEnvC scope cl C X.env) fp) ifs tt)
    (he : ∀ (s : Shared) (H : Hp) (C : Addr) (cl : List (Str × Addr)) (fp : List Addr), PE (blkQ X (some p) s H scope (compEnvC scope cl C X.env) fp) elt te) (hs : ∀ x, foldedSetIterable iter X.env x = pure x) : PE X (.ListComp elt [⟨tg, iter, ifs, 0⟩] scope pos) (tLc (iList X.K tl) g tt te (own.map (·.2))) := ⟨fun pins s σ H Q I h => by
  rw [eval_ListComp]
  refine lc_hot hot hN hl ok hg ht he hs I h fun D C s' m H' I' q hn f => ⟨m, hn, fun h'' sb => ?_⟩
  obtain ⟨f0, f1, f2, f3, f4, f5⟩ := f
  exact ⟨.ref D, H', I'.turned (t' := s'.toks) (fun b o hb e => (sb.2 b hb).trans e) f0 f1 f3 f4 f5, rfl, q⟩⟩
/-- name = [..] on one line -/
theorem ps_setLcHot {p : Addr × Obj} {i : Nat} {y : Str} {py : Pos} {elt tg iter : Expr} {ifs : List Expr} {scope : Scope} {own : List (Str × Nat)} {pos spos : Pos} {tl : L2.TE} {g : L2.TG} {tt : L2.TT} {te : L2.TE} (hot : Hot1 X.A p ∧ p ∈ X.pn) (hN : X.N.Nodup) (hy : X.N[i]? = some y) (hyl : X.env.scope.names.lookup y = some .local)
    (hsw : swapsWith (.ListComp elt [⟨tg, iter, ifs, 0⟩] scope pos) (some (.Name y py)) spos.line X.env = pure true) (hl : PE X iter tl) (ok : BlkOk X.N X.env.scope scope own)
    (hg : ∀ (s : Shared) (H : Hp) (C : Addr) (cl : List (Str × Addr)) (fp : List Addr), PG (blkQ X (some p) s H scope (compEnvC scope cl C X.env) fp) tg g) (ht : ∀ (s : Shared) (H : Hp) (C : Addr) (cl : List (Str × Addr)) (fp : List Addr), PTs (blkQ X (some p) s H scope (compEnvC scope cl C X.env) fp) ifs tt)
    (he : ∀ (s : Shared) (H : Hp) (C : Addr) (cl : List (Str × Addr)) (fp : List Addr), PE (blkQ X (some p) s H scope (compEnvC scope cl C X.env) fp) elt te) (hs : ∀ x, foldedSetIterable iter X.env x = pure x) : PS X (.Assign [.Name y py] (.ListComp elt [⟨tg, iter, ifs, 0⟩] scope pos) spos) (tAsg (tLc (iList X.K tl) g tt te (own.map (·.2))) (gName i)) := ⟨fun pins s σ H D I h => by
  rw [exec_Assign_Name_used _ _ _ _ hsw]
  refine wpAny_bind (wpAny_standAt (wpAny_bind ?_))
  have h : tLc (iList X.K tl) g tt te (own.map (·.2)) σ H (fun x H1 => gName i x σ H1 D.nx) := h
  refine wpAny_bind (thn (lc_hot (use := some (assign (.Name y py) X.env)) (Qf := fun _ s' => SP X pins D .next s') hot hN hl ok hg ht he hs I h fun L C s' m H' I' q hn f => ?_) fun _ s' hq => wpAny_pure (wpAny_pure hq))
  obtain ⟨f0, f1, f2, f3, f4, f5⟩ := f
  show wpAny _ _ (assign (.Name y py) X.env (.ref L)) _ _ _
  refine wpAny_assign_Name (store_ok2 (v := V.ref L) I' hN hy (.inl hyl) rfl (fun s2 I2 ⟨a, sb, ha⟩ => ⟨m, hn.sameBut sb ?_, fun h3 sb3 => ?_⟩) (.inr hyl))
  · rcases ha with z | z
    · rw [z]; exact f1
    · exact fun e => f4 y a z e.symm
  · exact ⟨_, H', I2.turned (t' := s2.toks) (fun b o hb e => (sb3.2 b hb).trans e) f0 f1 f3 f4 f5, q⟩⟩
end
theorem hunits {k : Nat} {A : Around} (r : RoomH k A) : A.units + 64 < cLine := by have := r.un; omega
/-! ### readings over the blocks -/
def bEQ (X : Cx) (hp : HP) (scope : Scope) (e : Expr) : L2.TE := fun st K Q => ∀ s0 H0 C cl fp, cE (blkQ X hp s0 H0 scope (compEnvC scope cl C X.env) fp) e st K Q
def bTQ (X : Cx) (hp : HP) (scope : Scope) (ifs : List Expr) : L2.TT := fun st K Q => ∀ s0 H0 C cl fp, cTs (blkQ X hp s0 H0 scope (compEnvC scope cl C X.env) fp) ifs st K Q
theorem bEQ_pe {X : Cx} {hp : HP} {scope : Scope} {e : Expr} (s0 : Shared) (H0 : Hp) (C : Addr) (cl : List (Str × Addr)) (fp : List Addr) : PE (blkQ X hp s0 H0 scope (compEnvC scope cl C X.env) fp) e (bEQ X hp scope e) := ⟨fun pins s _ _ _ I h => h s0 H0 C cl fp pins s I⟩
theorem bTQ_pts {X : Cx} {hp : HP} {scope : Scope} {ifs : List Expr} (s0 : Shared) (H0 : Hp) (C : Addr) (cl : List (Str × Addr)) (fp : List Addr) : PTs (blkQ X hp s0 H0 scope (compEnvC scope cl C X.env) fp) ifs (bTQ X hp scope ifs) := ⟨fun pins s _ _ _ I h => h s0 H0 C cl fp pins s I⟩
theorem bEQ_pe0 {X : Cx} {scope : Scope} {e : Expr} (s0 : Shared) (H0 : Hp) (C : Addr) (cl : List (Str × Addr)) (fp : List Addr) : PE (X.blk s0 H0 scope (compEnvC scope cl C X.env) fp) e (bEQ X none scope e) := bEQ_pe (X := X) (hp := none) s0 H0 C cl fp
theorem bTQ_pts0 {X : Cx} {scope : Scope} {ifs : List Expr} (s0 : Shared) (H0 : Hp) (C : Addr) (cl : List (Str × Addr)) (fp : List Addr) : PTs (X.blk s0 H0 scope (compEnvC scope cl C X.env) fp) ifs (bTQ X none scope ifs) := bTQ_pts (X := X) (hp := none) s0 H0 C cl fp
end Y

/-! Y0: values as trees, mutable objects as cells; judgements over trees. -/
namespace Y
open PySem PySem.Spec L2 SX Z

/-! ### trees -/
abbrev DK := Sum Int (List Nat)
def keyD : DK → Key
  | .inl i => .inl i
  | .inr s => .inr (S s)
inductive DT where
  | non | bl (b : Bool) | int (i : Int) | str (s : List Nat)
  | lst (xs : List DT) | seq (xs : List DT) | tup (xs : List DT) | dct (kvs : List (DK × DT)) | obj (C : Addr) (fs : List (Str × DT))
  | ref (p : Addr) | ty (n : String) | exc (C : Addr) (fs : List (Str × DT))
  | hot (a : Addr) (d : Option Addr) (fs : List (Str × DT))
def dk : DK → DT
  | .inl i => .int i
  | .inr s => .str s
/-- the codes of a written text -/
def sOf (x : Str) : List Nat := x.cps.toList
theorem S_sOf (x : Str) : S (sOf x) = x := S_tl x
section
variable (F : PySem.W.Frag) (H : Hp)
mutual
inductive Rep : V → DT → Prop
  | non : Rep .non .non
  | bl (b : Bool) : Rep (.bl b) (.bl b)
  | int (i : Int) : Rep (.int i) (.int i)
  | str (s : List Nat) : Rep (.str (S s)) (.str s)
  | lst {a : Addr} {vs : List V} {ds : List DT} : H a = some (.lst vs) → RepA vs ds → Rep (.ref a) (.lst ds)
  | seq {a : Addr} {vs : List V} {ds : List DT} : SqL F H a vs → RepA vs ds → Rep (.ref a) (.seq ds)
  | tup {a : Addr} {vs : List V} {ds : List DT} : SqT F H a vs → RepA vs ds → Rep (.ref a) (.tup ds)
  | dct {a : Addr} {ob : Obj} {kvs : List (Key × V)} {ds : List (DK × DT)} : H a = some (.frz ob (.dK kvs)) → RepK kvs ds → Rep (.ref a) (.dct ds)
  | obj {a C dx : Addr} {fs : List (Str × V)} {ds : List (Str × DT)} : H a = some (.ins C dx fs) → H dx = some (.own a) → RepF fs ds → Rep (.ref a) (.obj C ds)
  | ref (a : Addr) : Rep (.ref a) (.ref a)
  | ty (n : String) : Rep (.ty n) (.ty n)
  | exc0 {a C : Addr} : H a = some (ExO (.ref C) a) → Rep (.ref a) (.exc C [])
  | exc1 {a C dx : Addr} {fs : List (Str × V)} {ds : List (Str × DT)} : H a = some (exo a C (some dx)) → H dx = some (exd dx fs) → RepF fs ds → Rep (.ref a) (.exc C ds)
  | hot0 (a : Addr) : Rep (.ref a) (.hot a none [])
  | hot1 {a dx : Addr} {fs : List (Str × V)} {ds : List (Str × DT)} : H dx = some (.xd fs) → RepF fs ds → Rep (.ref a) (.hot a (some dx) ds)
inductive RepA : List V → List DT → Prop
  | nil : RepA [] []
  | cons {v : V} {vs : List V} {d : DT} {ds : List DT} : Rep v d → RepA vs ds → RepA (v :: vs) (d :: ds)
inductive RepK : List (Key × V) → List (DK × DT) → Prop
  | nil : RepK [] []
  | cons {k : DK} {v : V} {vs : List (Key × V)} {d : DT} {ds : List (DK × DT)} : Rep v d → RepK vs ds → RepK ((keyD k, v) :: vs) ((k, d) :: ds)
inductive RepF : List (Str × V) → List (Str × DT) → Prop
  | nil : RepF [] []
  | cons {k : Str} {v : V} {vs : List (Str × V)} {d : DT} {ds : List (Str × DT)} : Rep v d → RepF vs ds → RepF ((k, v) :: vs) ((k, d) :: ds)
end
end
section
variable {F : PySem.W.Frag} {H H' K : Hp}
mutual
theorem Rep.same (s : Same H H') : ∀ {v : V} {d : DT}, Rep F H v d → Rep F H' v d
  | _, _, .non => .non
  | _, _, .bl b => .bl b
  | _, _, .int i => .int i
  | _, _, .str z => .str z
  | _, _, .lst h r => .lst (s _ _ h) (RepA.same s r)
  | _, _, .seq h r => .seq (same_sql s h) (RepA.same s r)
  | _, _, .tup h r => .tup (same_sqt s h) (RepA.same s r)
  | _, _, .dct h r => .dct (s _ _ h) (RepK.same s r)
  | _, _, .obj h h2 r => .obj (s _ _ h) (s _ _ h2) (RepF.same s r)
  | _, _, .ref a => .ref a
  | _, _, .ty n => .ty n
  | _, _, .exc0 h => .exc0 (s _ _ h)
  | _, _, .exc1 h h2 r => .exc1 (s _ _ h) (s _ _ h2) (RepF.same s r)
  | _, _, .hot0 a => .hot0 a
  | _, _, .hot1 h r => .hot1 (s _ _ h) (RepF.same s r)
theorem RepA.same (s : Same H H') : ∀ {v : List V} {d : List DT}, RepA F H v d → RepA F H' v d
  | _, _, .nil => .nil
  | _, _, .cons h r => .cons (Rep.same s h) (RepA.same s r)
theorem RepK.same (s : Same H H') : ∀ {v : List (Key × V)} {d : List (DK × DT)}, RepK F H v d → RepK F H' v d
  | _, _, .nil => .nil
  | _, _, .cons h r => .cons (Rep.same s h) (RepK.same s r)
theorem RepF.same (s : Same H H') : ∀ {v : List (Str × V)} {d : List (Str × DT)}, RepF F H v d → RepF F H' v d
  | _, _, .nil => .nil
  | _, _, .cons h r => .cons (Rep.same s h) (RepF.same s r)
end
theorem RepA.length : ∀ {v : List V} {d : List DT}, RepA F H v d → v.length = d.length
  | _, _, .nil => rfl
  | _, _, .cons _ r => congrArg (· + 1) (RepA.length r)
theorem RepK.length : ∀ {v : List (Key × V)} {d : List (DK × DT)}, RepK F H v d → v.length = d.length
  | _, _, .nil => rfl
  | _, _, .cons _ r => congrArg (· + 1) (RepK.length r)
theorem RepA.get : ∀ {v : List V} {d : List DT} {i : Nat} {x : DT}, RepA F H v d → d[i]? = some x → ∃ u, v[i]? = some u ∧ Rep F H u x
  | _, _, _, _, .nil, e => by simp at e
  | _, _, 0, _, .cons r _, e => by simp at e; subst e; exact ⟨_, rfl, r⟩
  | _, _, i + 1, x, .cons _ t, e => by
    obtain ⟨u, h1, h2⟩ := RepA.get (i := i) (x := x) t (by simpa using e)
    exact ⟨u, by simpa using h1, h2⟩
theorem RepA.get' : ∀ {v : List V} {d : List DT} {i : Nat} {u : V}, RepA F H v d → v[i]? = some u → ∃ x, d[i]? = some x ∧ Rep F H u x
  | _, _, _, _, .nil, e => by simp at e
  | _, _, 0, _, .cons r _, e => by simp at e; subst e; exact ⟨_, rfl, r⟩
  | _, _, i + 1, x, .cons _ t, e => by
    obtain ⟨u, h1, h2⟩ := RepA.get' (i := i) (u := x) t (by simpa using e)
    exact ⟨u, by simpa using h1, h2⟩
theorem RepA.set {x : DT} {u : V} (r : Rep F H u x) : ∀ {v : List V} {d : List DT} (i : Nat), RepA F H v d → RepA F H (v.set i u) (d.set i x)
  | _, _, _, .nil => .nil
  | _, _, 0, .cons _ t => .cons r t
  | _, _, i + 1, .cons q t => .cons q (RepA.set r i t)
theorem RepA.append : ∀ {v : List V} {d : List DT} {v2 : List V} {d2 : List DT}, RepA F H v d → RepA F H v2 d2 → RepA F H (v ++ v2) (d ++ d2)
  | _, _, _, _, .nil, s => s
  | _, _, _, _, .cons r t, s => .cons r (RepA.append t s)
theorem RepA.take : ∀ {v : List V} {d : List DT} (n : Nat), RepA F H v d → RepA F H (v.take n) (d.take n)
  | _, _, 0, _ => .nil
  | _, _, _ + 1, .nil => .nil
  | _, _, n + 1, .cons r t => .cons r (RepA.take n t)
theorem RepA.drop : ∀ {v : List V} {d : List DT} (n : Nat), RepA F H v d → RepA F H (v.drop n) (d.drop n)
  | _, _, 0, r => r
  | _, _, _ + 1, .nil => .nil
  | _, _, n + 1, .cons _ t => RepA.drop n t
theorem RepA.rep : ∀ {v : List V} {d : List DT} (n : Nat), RepA F H v d → RepA F H (List.replicate n v).flatten (List.replicate n d).flatten
  | _, _, 0, _ => .nil
  | v, d, n + 1, r => by
    rw [List.replicate_succ, List.replicate_succ, List.flatten_cons, List.flatten_cons]
    exact r.append (RepA.rep n r)
theorem RepF.lookup : ∀ {v : List (Str × V)} {d : List (Str × DT)} {x : Str} {y : DT}, RepF F H v d → d.lookup x = some y → ∃ u, v.lookup x = some u ∧ Rep F H u y
  | _, _, _, _, .nil, e => by simp at e
  | _, _, x, y, .cons (k := k) r t, e => by
    rw [List.lookup_cons] at e ⊢
    cases h : x == k with
    | true => rw [h] at e; cases e; exact ⟨_, rfl, r⟩
    | false => rw [h] at e; exact RepF.lookup t e
/-- the keys -/
theorem keyD_inj {a b : DK} (h : keyD a = keyD b) : a = b := by
  cases a with
  | inl i => cases b with
    | inl j => cases h; rfl
    | inr t => cases h
  | inr s => cases b with
    | inl j => cases h
    | inr t => rw [S_inj (Sum.inr.inj h)]
theorem rep_dk (k : DK) : Rep F H (kV (keyD k)) (dk k) := by
  cases k with
  | inl i => exact .int i
  | inr s => exact .str s
theorem Rep.key {v : V} {k : DK} (h : Rep F H v (dk k)) : v = kV (keyD k) := by
  cases k with
  | inl i => cases h; rfl
  | inr s => cases h; rfl
end

/-! ### cells -/
inductive Cell where
  | lst (ds : List DT) | dct (kvs : List (DK × DT)) | obj (C : Addr) (fs : List (Str × DT))
def Cell.tree : Cell → DT
  | .lst ds => .lst ds
  | .dct ds => .dct ds
  | .obj C fs => .obj C fs
abbrev Sg := Addr → Option Cell
def su (σ : Sg) (p : Addr) (c : Cell) : Sg := fun q => if q = p then some c else σ q
def sd (σ : Sg) (p : Addr) : Sg := fun q => if q = p then none else σ q
@[simp] theorem su_same {σ : Sg} {p : Addr} {c : Cell} : su σ p c p = some c := if_pos rfl
theorem su_ne {σ : Sg} {p q : Addr} {c : Cell} (h : q ≠ p) : su σ p c q = σ q := if_neg h
@[simp] theorem sd_same {σ : Sg} {p : Addr} : sd σ p p = none := if_pos rfl
theorem sd_ne {σ : Sg} {p q : Addr} (h : q ≠ p) : sd σ p q = σ q := if_neg h
@[simp] theorem su_su {σ : Sg} {p : Addr} {c c' : Cell} : su (su σ p c) p c' = su σ p c' := by
  funext q
  unfold su
  split <;> rfl
theorem sd_su {σ : Sg} {p : Addr} {c : Cell} (h : σ p = none) : sd (su σ p c) p = σ := by
  funext q
  unfold sd su
  split
  · next e => rw [e, h]
  · rfl
theorem su_comm {σ : Sg} {p q : Addr} {c c' : Cell} (h : p ≠ q) : su (su σ p c) q c' = su (su σ q c') p c := by
  funext a
  unfold su
  by_cases e : a = p
  · by_cases e2 : a = q
    · exact absurd (e.symm.trans e2) h
    · simp [e, h]
  · simp [e]
theorem su_self {σ : Sg} {p : Addr} {c : Cell} (h : σ p = some c) : su σ p c = σ := by
  funext a
  unfold su
  split
  · next e => rw [e, h]
  · rfl
theorem ne_none {σ : Sg} {p q : Addr} {c : Cell} (h : σ p = some c) (n : σ q = none) : p ≠ q := fun e => by
  rw [e, n] at h
  cases h
section
variable (F : PySem.W.Frag)
def CRep (H K : Hp) (p : Addr) : Cell → Prop
  | .lst ds => ∃ vs, K p = some (.lst vs) ∧ RepA F H vs ds
  | .dct ds => ∃ vs, K p = some (.dK vs) ∧ RepK F H vs ds
  | .obj C ds => ∃ dx vs, K p = some (.ins C dx vs) ∧ K dx = some (.own p) ∧ RepF F H vs ds
structure Wd (H : Hp) (σ : Sg) (K : Hp) : Prop where
  le : Same H K
  off : ∀ p c, σ p = some c → H p = none
  on : ∀ p c, σ p = some c → CRep F H K p c
end
/-- the way from one state to a later one: what is known for good stays, what is no cell stays, new cells are new objects -/
structure Gw (H : Hp) (σ : Sg) (K H' : Hp) (σ' : Sg) (K' : Hp) : Prop where
  b : Same H H'
  k : ∀ a o, σ a = none → K a = some o → K' a = some o
  n : ∀ a, σ a = none → σ' a ≠ none → K a = none
  f : ∀ a, H a = none → H' a ≠ none → σ a = none → K a = none ∨ ∃ p, K a = some (.own p)
theorem Gw.refl {H K : Hp} {σ : Sg} : Gw H σ K H σ K := ⟨Same.refl H, fun _ _ _ e => e, fun a h n => absurd h n, fun a h n => absurd h n⟩
theorem Gw.trans {H H1 H2 K K1 K2 : Hp} {σ σ1 σ2 : Sg} (g : Gw H σ K H1 σ1 K1) (g2 : Gw H1 σ1 K1 H2 σ2 K2) : Gw H σ K H2 σ2 K2 where
  b := g.b.trans g2.b
  k := fun a o h e => by
    refine g2.k a o ?_ (g.k a o h e)
    cases q : σ1 a with
    | none => rfl
    | some c =>
      have := g.n a h (by rw [q]; exact Option.some_ne_none _)
      rw [this] at e
      cases e
  n := fun a h z => by
    cases q : σ1 a with
    | none =>
      have k1 := g2.n a q z
      cases e : K a with
      | none => rfl
      | some o =>
        rw [g.k a o h e] at k1
        cases k1
    | some c => exact g.n a h (by rw [q]; exact Option.some_ne_none _)
  f := fun a h z e => by
    by_cases q : H1 a = none
    · cases q1 : σ1 a with
      | some c => exact .inl (g.n a e (by rw [q1]; exact Option.some_ne_none _))
      | none =>
        cases q2 : K a with
        | none => exact .inl rfl
        | some o =>
          have k1 := g.k a o e q2
          rcases g2.f a q z q1 with r | ⟨p, r⟩
          · rw [k1] at r; cases r
          · rw [k1] at r; cases r; exact .inr ⟨p, rfl⟩
    · exact g.f a h q e
theorem Gw.drop {H H1 K K1 : Hp} {σ σ1 : Sg} {p : Addr} (g : Gw H σ K H1 σ1 K1) : Gw H σ K H1 (sd σ1 p) K1 := ⟨g.b, g.k, fun a h z => g.n a h fun e => z (by
  by_cases q : a = p
  · rw [q, sd_same]
  · rw [sd_ne q, e]), g.f⟩
theorem Gw.newC {H K : Hp} {σ : Sg} {p : Addr} {c : Cell} {o : HO} (h : K p = none) : Gw H σ K H (su σ p c) (upd K p o) := ⟨Same.refl H, fun a u _ e => by rw [upd_ne (ne_of_none e h)]; exact e, fun a e z => by
  by_cases q : a = p
  · rw [q]; exact h
  · rw [su_ne q] at z; exact absurd e z, fun a h z => absurd h z⟩
theorem Gw.write {H K : Hp} {σ : Sg} {p : Addr} {c c' : Cell} {o : HO} (h : σ p = some c) : Gw H σ K H (su σ p c') (upd K p o) := ⟨Same.refl H, fun a u e e2 => by rw [upd_ne (fun q => by rw [q, h] at e; cases e)]; exact e2, fun a e z => by
  rw [su_ne (fun q => by rw [q, h] at e; cases e)] at z
  exact absurd e z, fun a h z => absurd h z⟩
theorem Gw.push {H K : Hp} {σ : Sg} {p : Addr} {o : HO} (h : K p = none) : Gw H σ K H σ (upd K p o) := ⟨Same.refl H, fun a u _ e => by rw [upd_ne (ne_of_none e h)]; exact e, fun a e z => absurd e z, fun a h z => absurd h z⟩
section
variable {F : PySem.W.Frag} {H H' K K' : Hp} {σ : Sg} {p : Addr} {c : Cell}
theorem CRep.here (h : CRep F H K p c) : ∃ o, K p = some o := by
  cases c with
  | lst ds => obtain ⟨vs, e, _⟩ := h; exact ⟨_, e⟩
  | dct ds => obtain ⟨vs, e, _⟩ := h; exact ⟨_, e⟩
  | obj C ds => obtain ⟨dx, vs, e, _⟩ := h; exact ⟨_, e⟩
theorem CRep.mut (h : CRep F H K p c) : ∀ a, K p ≠ some (.own a) := fun a q => by
  cases c with
  | lst ds => obtain ⟨vs, e, _⟩ := h; rw [e] at q; cases q
  | dct ds => obtain ⟨vs, e, _⟩ := h; rw [e] at q; cases q
  | obj C ds => obtain ⟨dx, vs, e, _⟩ := h; rw [e] at q; cases q
/-- what a cell's description leans on: its own object, its own dict -/
theorem CRep.stay (h : CRep F H K p c) (s : Same H H') (k : ∀ a o, (a = p ∨ o = .own p) → K a = some o → K' a = some o) : CRep F H' K' p c := by
  cases c with
  | lst ds => obtain ⟨vs, e, r⟩ := h; exact ⟨vs, k _ _ (.inl rfl) e, r.same s⟩
  | dct ds => obtain ⟨vs, e, r⟩ := h; exact ⟨vs, k _ _ (.inl rfl) e, r.same s⟩
  | obj C ds => obtain ⟨dx, vs, e, e2, r⟩ := h; exact ⟨dx, vs, k _ _ (.inl rfl) e, k _ _ (.inr rfl) e2, r.same s⟩
theorem Wd.free (w : Wd F H σ K) {a : Addr} (h : K a = .none) : σ a = .none := by
  cases e : σ a with
  | none => rfl
  | some c =>
    obtain ⟨o, q⟩ := (w.on a c e).here
    rw [h] at q
    cases q
theorem none_of {H K : Hp} (s : Same H K) {p : Addr} (h : K p = .none) : H p = .none := by
  cases e : H p with
  | none => rfl
  | some o => rw [s _ _ e] at h; cases h
/-- a new object, known for good -/
theorem Wd.new (w : Wd F H σ K) {o : HO} (h : K p = .none) : Gw H σ K (upd H p o) σ (upd K p o) ∧ Wd F (upd H p o) σ (upd K p o) := by
  have hp : H p = .none := none_of w.le h
  refine ⟨⟨same_upd hp, (Gw.push (H := H) h).k, (Gw.push (H := H) (o := o) h).n, fun a e z _ => .inl (by
    by_cases q : a = p
    · rw [q]; exact h
    · rw [upd_ne q] at z; exact absurd e z)⟩, fun a u e => ?_, fun q c e => ?_, fun q c e => ?_⟩
  · by_cases z : a = p
    · subst z
      rw [upd_same] at e
      cases e
      exact upd_same
    · rw [upd_ne z] at e
      rw [upd_ne z]
      exact w.le a u e
  · have ne : q ≠ p := fun z => by
      obtain ⟨u, e2⟩ := (w.on q c e).here
      rw [z, h] at e2
      cases e2
    rw [upd_ne ne]
    exact w.off q c e
  · exact (w.on q c e).stay (same_upd hp) fun a u _ e2 => by rw [upd_ne (ne_of_none e2 h)]; exact e2
/-- a new object that stays untold -/
theorem Wd.push (w : Wd F H σ K) {o : HO} (h : K p = .none) : Wd F H σ (upd K p o) := by
  have hp : H p = .none := none_of w.le h
  refine ⟨fun a u e => ?_, w.off, fun q c e => (w.on q c e).stay (Same.refl H) fun a u _ e2 => by rw [upd_ne (ne_of_none e2 h)]; exact e2⟩
  rw [upd_ne (ne_of_none e hp)]
  exact w.le a u e
/-- an object that stands is a cell from now on -/
theorem Wd.add (w : Wd F H σ K) (hp : H p = .none) (r : CRep F H K p c) : Wd F H (su σ p c) K := by
  refine ⟨w.le, fun q u e => ?_, fun q u e => ?_⟩
  · by_cases z : q = p
    · rw [z]; exact hp
    · rw [su_ne z] at e
      exact w.off q u e
  · by_cases z : q = p
    · subst z
      rw [su_same] at e
      cases e
      exact r
    · rw [su_ne z] at e
      exact w.on q u e
theorem Wd.drop (w : Wd F H σ K) : Wd F H (sd σ p) K := by
  have f : ∀ {q u}, sd σ p q = some u → σ q = some u := fun {q u} e => by
    by_cases z : q = p
    · rw [z, sd_same] at e; cases e
    · rwa [sd_ne z] at e
  exact ⟨w.le, fun q u e => w.off q u (f e), fun q u e => w.on q u (f e)⟩
/-- a cell's object is written -/
theorem Wd.write (w : Wd F H σ K) {o : HO} {c' : Cell} (hc : σ p = some c) (r : CRep F H (upd K p o) p c') : Wd F H (su σ p c') (upd K p o) := by
  have mu := (w.on p c hc).mut
  refine ⟨fun a u e => ?_, fun q u e => ?_, fun q u e => ?_⟩
  · have z : a ≠ p := fun z => by rw [z, w.off p c hc] at e; cases e
    rw [upd_ne z]
    exact w.le a u e
  · by_cases z : q = p
    · rw [z]; exact w.off p c hc
    · rw [su_ne z] at e
      exact w.off q u e
  · by_cases z : q = p
    · subst z
      rw [su_same] at e
      cases e
      exact r
    · rw [su_ne z] at e
      refine (w.on q u e).stay (Same.refl H) fun a u2 h e2 => ?_
      have ne : a ≠ p := fun z2 => by
        rcases h with h | h
        · exact z (h.symm.trans z2)
        · subst h
          rw [z2] at e2
          exact mu _ e2
      rw [upd_ne ne]
      exact e2
/-- a cell is known for good from now on (a dict is locked) -/
theorem Wd.freeze {X : Cx} {pins : List (Addr × Obj)} {st : L2.St} {s : Shared} (w : Wd F H σ K) (hc : σ p = some c) (I : Inv X pins st K s) : ∃ H' K', Inv X pins st K' s ∧ Gw H σ K H' (sd σ p) K' ∧ Wd F H' (sd σ p) K' ∧ Rep F H' (.ref p) c.tree := by
  have gn : ∀ a, σ a = none → sd σ p a ≠ none → K a = none := fun a h z => absurd ((Gw.refl (H := H) (σ := σ) (K := K)).drop (p := p) |>.n a h z) (fun e => z (by
    by_cases q : a = p
    · rw [q, sd_same]
    · rw [sd_ne q, h]))
  have gf : ∀ {o : HO} (a : Addr), H a = none → (upd H p o) a ≠ none → σ a = none → K a = none ∨ ∃ p, K a = some (.own p) := fun {o} a e z h => by
    by_cases q : a = p
    · rw [q, hc] at h; cases h
    · rw [upd_ne q] at z; exact absurd e z
  have hp := w.off p c hc
  have r := w.on p c hc
  have off : ∀ {o : HO}, ∀ q u, sd σ p q = some u → (upd H p o) q = none := fun {o} q u q2 => by
    have ne : q ≠ p := fun z => by rw [z, sd_same] at q2; cases q2
    rw [upd_ne ne]
    exact w.drop.off q u q2
  have base : ∀ {o : HO}, K p = some o → Same H (upd H p o) ∧ Wd F (upd H p o) (sd σ p) K := fun {o} e => by
    refine ⟨same_upd hp, fun a u q => ?_, off, fun q u q2 => (w.drop.on q u q2).stay (same_upd hp) fun _ _ _ e => e⟩
    by_cases z : a = p
    · subst z
      rw [upd_same] at q
      cases q
      exact e
    · rw [upd_ne z] at q
      exact w.le a u q
  cases c with
  | lst ds =>
    obtain ⟨vs, e, ra⟩ := r
    obtain ⟨s, w'⟩ := base e
    exact ⟨_, K, I, ⟨s, fun _ _ _ e => e, gn, gf⟩, w', .lst upd_same (ra.same s)⟩
  | dct ds =>
    obtain ⟨vs, e, ra⟩ := r
    obtain ⟨od, I'⟩ := I.lock e trivial
    have sd' : Same H (upd H p (.frz od (.dK vs))) := same_upd hp
    refine ⟨upd H p (.frz od (.dK vs)), _, I', ⟨sd', fun a o h2 e2 => by rw [upd_ne (fun q => by rw [q, hc] at h2; cases h2)]; exact e2, gn, gf⟩, ⟨fun a u q => ?_, off, fun q u q2 => ?_⟩, .dct upd_same (ra.same sd')⟩
    · by_cases z : a = p
      · subst z
        rw [upd_same] at q ⊢
        exact q
      · rw [upd_ne z] at q ⊢
        exact w.le a u q
    · refine (w.drop.on q u q2).stay sd' fun a o h e2 => ?_
      have ne : a ≠ p := fun z2 => by
        rcases h with h | h
        · rw [← h, z2, sd_same] at q2; cases q2
        · rw [z2, e] at e2; subst h; cases e2
      rw [upd_ne ne]
      exact e2
  | obj C ds =>
    obtain ⟨dx, vs, e, e2, ra⟩ := r
    obtain ⟨s, w'⟩ := base e
    have ne : dx ≠ p := fun z => by rw [z, e] at e2; cases e2
    have s2 : Same (upd H p (.ins C dx vs)) (upd (upd H p (.ins C dx vs)) dx (.own p)) := fun a u q => by
      by_cases z : a = dx
      · subst z
        have k := w'.le a u q
        rw [e2] at k
        cases k
        exact upd_same
      · rw [upd_ne z]; exact q
    refine ⟨_, K, I, ⟨s.trans s2, fun _ _ _ e => e, gn, fun a e z h => by
      by_cases q : a = dx
      · rw [q]; exact .inr ⟨p, e2⟩
      · rw [upd_ne q] at z; exact gf a e z h⟩, ⟨fun a u q => ?_, fun q u q2 => ?_, fun q u q2 => (w'.on q u q2).stay s2 fun _ _ _ e => e⟩, .obj (C := C) (dx := dx) (by rw [upd_ne (fun z => ne z.symm)]; exact upd_same) upd_same (ra.same (s.trans s2))⟩
    · by_cases z : a = dx
      · subst z
        rw [upd_same] at q
        cases q
        exact e2
      · rw [upd_ne z] at q
        exact w'.le a u q
    · have z : q ≠ dx := fun z => by
        have := (w'.on q u q2).mut p
        rw [z] at this
        exact this e2
      rw [upd_ne z]
      exact w'.off q u q2
end

/-! ### slots -/
abbrev EnvT := List (Option DT)
structure REnv (F : PySem.W.Frag) (H : Hp) (ρ : EnvT) (st : L2.St) : Prop where
  len : ρ.length = st.length
  get : ∀ (i : Nat) (d : DT), ρ[i]? = some (some d) → ∃ v, st[i]? = some (some v) ∧ Rep F H v d
section
variable {F : PySem.W.Frag} {H H' K K' : Hp} {ρ : EnvT} {st : L2.St}
theorem REnv.same (r : REnv F H ρ st) (s : Same H H') : REnv F H' ρ st := ⟨r.len, fun i d e => by
  obtain ⟨v, e1, e2⟩ := r.get i d e
  exact ⟨v, e1, e2.same s⟩⟩
theorem REnv.set (r : REnv F H ρ st) {v : V} {d : DT} (h : Rep F H v d) (i : Nat) : REnv F H (ρ.set i (some d)) (st.set i (some v)) := by
  refine ⟨by rw [List.length_set, List.length_set, r.len], fun j e q => ?_⟩
  rw [List.getElem?_set] at q ⊢
  by_cases z : i = j
  · rw [if_pos z] at q ⊢
    rw [← r.len]
    split at q
    · next l => rw [if_pos l]; cases q; exact ⟨v, rfl, h⟩
    · cases q
  · rw [if_neg z] at q ⊢
    exact r.get j e q
theorem REnv.unset (r : REnv F H ρ st) (i : Nat) : REnv F H (ρ.set i none) (st.set i none) := by
  refine ⟨by rw [List.length_set, List.length_set, r.len], fun j e q => ?_⟩
  rw [List.getElem?_set] at q ⊢
  by_cases z : i = j
  · rw [if_pos z] at q
    split at q <;> cases q
  · rw [if_neg z] at q ⊢
    exact r.get j e q
/-- what is no longer told -/
theorem REnv.forget (r : REnv F H ρ st) (i : Nat) (o : Option V) : REnv F H (ρ.set i none) (st.set i o) := by
  refine ⟨by rw [List.length_set, List.length_set, r.len], fun j e q => ?_⟩
  rw [List.getElem?_set] at q ⊢
  by_cases z : i = j
  · rw [if_pos z] at q
    split at q <;> cases q
  · rw [if_neg z] at q ⊢
    exact r.get j e q
def wipeT (ρ : EnvT) : List Nat → EnvT
  | [] => ρ
  | v :: vs => (wipeT ρ vs).set v none
theorem REnv.wipe (r : REnv F H ρ st) : ∀ vs : List Nat, REnv F H (wipeT ρ vs) (L2.wipe st vs)
  | [] => r
  | v :: vs => (REnv.wipe r vs).unset v
theorem renv_start {vs : List V} {ds : List DT} (r : RepA F H vs ds) (n : Nat) : REnv F H (ds.map some ++ List.replicate n none) (vs.map some ++ List.replicate n none) := by
  constructor
  · simp [r.length]
  · intro i d e
    by_cases h : i < ds.length
    · rw [List.getElem?_append_left (by simpa using h), List.getElem?_map] at e
      rw [List.getElem?_append_left (by simpa [r.length] using h), List.getElem?_map]
      obtain ⟨x, e1, e2⟩ := Option.map_eq_some_iff.mp e
      cases e2
      obtain ⟨u, h1, h2⟩ := r.get e1
      exact ⟨u, by rw [h1]; exact rfl, h2⟩
    · rw [List.getElem?_append_right (by simpa using h)] at e
      rw [List.getElem?_replicate] at e
      split at e <;> cases e
end
end Y

/-! Y1: judgements over trees: expressions. -/
namespace Y
open PySem PySem.Spec L2 SX Z

/-- what may leave: a class, an own dict -/
abbrev TX := Value → Option (List (Str × DT)) → Sg → Prop
abbrev TX0 : TX := fun _ _ _ => False
inductive XRep (F : PySem.W.Frag) (H : Hp) : Option Addr → Option (List (Str × DT)) → Prop
  | nil : XRep F H none none
  | dict {d : Addr} {vs : List (Str × V)} {fs : List (Str × DT)} : H d = some (.xd vs) → RepF F H vs fs → XRep F H (some d) (some fs)
/-- errors leave as told -/
def XC (c : Ct) (H : Hp) (σ : Sg) (K : Hp) (st : L2.St) (E : TX) : Prop := ∀ cls dA x σ' H' K', Gw H σ K H' σ' K' → Wd c.K H' σ' K' → XRep c.K H' dA x → E cls x σ' → c.Wx cls dA st K'
theorem XC.next {c : Ct} {H H' K K' : Hp} {σ σ' : Sg} {st : L2.St} {E : TX} (f : XC c H σ K st E) (s : Gw H σ K H' σ' K') : XC c H' σ' K' st E := fun cls dA x σ' H2 K2 s2 => f cls dA x σ' H2 K2 (s.trans s2)
theorem xc0 {c : Ct} {H K : Hp} {σ : Sg} {st : L2.St} : XC c H σ K st TX0 := fun _ _ _ _ _ _ _ _ _ z => z.elim
/-- what follows, over trees, serves what follows, over the heap -/
def Fo {α β : Type} (c : Ct) (R : Hp → α → β → Prop) (H : Hp) (σ : Sg) (K : Hp) (Q : β → Sg → Prop) (Q' : α → Hp → Prop) : Prop := ∀ v d σ' H' K', Gw H σ K H' σ' K' → Wd c.K H' σ' K' → R H' v d → Q d σ' → Q' v K'
theorem Fo.next {α β : Type} {c : Ct} {R : Hp → α → β → Prop} {H H' K K' : Hp} {σ σ' : Sg} {Q : β → Sg → Prop} {Q' : α → Hp → Prop} (f : Fo c R H σ K Q Q') (s : Gw H σ K H' σ' K') : Fo c R H' σ' K' Q Q' := fun v d σ' H2 K2 s2 => f v d σ' H2 K2 (s.trans s2)
abbrev RB : Hp → Bool → Bool → Prop := fun _ a b => a = b

structure TE (c : Ct) (e : Expr) (ρ : EnvT) (σ : Sg) (Q : DT → Sg → Prop) (E : TX) : Prop where
  run : ∀ X, Con c X → ∀ st H K, Wd c.K H σ K → REnv c.K H ρ st → XC c H σ K st E → ∀ Q' : VK, Fo c (Rep c.K) H σ K Q Q' → cE X e st K Q'
structure TT (c : Ct) (e : Expr) (ρ : EnvT) (σ : Sg) (Q : Bool → Sg → Prop) (E : TX) : Prop where
  run : ∀ X, Con c X → ∀ st H K, Wd c.K H σ K → REnv c.K H ρ st → XC c H σ K st E → ∀ Q' : Bool → Hp → Prop, Fo c RB H σ K Q Q' → cT X e st K Q'
structure TW (c : Ct) (e : Expr) (ρ : EnvT) (σ : Sg) (Q : Bool → Sg → Prop) (E : TX) : Prop where
  run : ∀ X, Con c X → ∀ st H K, Wd c.K H σ K → REnv c.K H ρ st → XC c H σ K st E → ∀ Q' : Bool → Hp → Prop, Fo c RB H σ K Q Q' → cW X e st K Q'
structure TA (c : Ct) (es : List Expr) (ρ : EnvT) (σ : Sg) (Q : List DT → Sg → Prop) (E : TX) : Prop where
  run : ∀ X, Con c X → ∀ st H K, Wd c.K H σ K → REnv c.K H ρ st → XC c H σ K st E → ∀ Q' : List V → Hp → Prop, Fo c (RepA c.K) H σ K Q Q' → cA X es st K Q'
/-- operations by values: they leave the cells as they are -/
structure PO2 (c : Ct) (f : Value → Value → Sem Value) (x y : DT) (σ : Sg) (d : DT) : Prop where
  run : ∀ X, Con c X → ∀ H K, Wd c.K H σ K → ∀ v u, Rep c.K H v x → Rep c.K H u y → ∀ Q' : VK, (∀ r H' K', Gw H σ K H' σ K' → Wd c.K H' σ K' → Rep c.K H' r d → Q' r K') → cO X f v u K Q'
structure PO1 (c : Ct) (f : Value → Sem Value) (x : DT) (σ : Sg) (d : DT) : Prop where
  run : ∀ X, Con c X → ∀ H K, Wd c.K H σ K → ∀ v, Rep c.K H v x → ∀ Q' : VK, (∀ r H' K', Gw H σ K H' σ K' → Wd c.K H' σ K' → Rep c.K H' r d → Q' r K') → cU X f v K Q'
structure POI (c : Ct) (x y : DT) (σ : Sg) (d : DT) : Prop where
  run : ∀ X, Con c X → ∀ H K, Wd c.K H σ K → ∀ v u, Rep c.K H v x → Rep c.K H u y → ∀ Q' : VK, (∀ r H' K', Gw H σ K H' σ K' → Wd c.K H' σ K' → Rep c.K H' r d → Q' r K') → cI X v u K Q'
structure POL (c : Ct) (x : DT) (lo hi : Option Int) (σ : Sg) (d : DT) : Prop where
  run : ∀ X, Con c X → ∀ H K, Wd c.K H σ K → ∀ v, Rep c.K H v x → ∀ Q' : VK, (∀ r H' K', Gw H σ K H' σ K' → Wd c.K H' σ K' → Rep c.K H' r d → Q' r K') → cL X v lo hi K Q'
structure POF (c : Ct) (f : Value) (xs : List DT) (σ : Sg) (d : DT) : Prop where
  run : ∀ X, Con c X → ∀ H K, Wd c.K H σ K → ∀ vs, RepA c.K H vs xs → ∀ Q' : VK, (∀ r H' K', Gw H σ K H' σ K' → Wd c.K H' σ K' → Rep c.K H' r d → Q' r K') → cF X f vs K Q'
/-- a method by values: it may change cells -/
structure TOM (c : Ct) (id : String) (x : DT) (xs : List DT) (σ : Sg) (Q : DT → Sg → Prop) : Prop where
  run : ∀ X, Con c X → ∀ H K, Wd c.K H σ K → ∀ v vs, Rep c.K H v x → RepA c.K H vs xs → ∀ Q' : VK, Fo c (Rep c.K) H σ K Q Q' → cM X id v vs K Q'
/-- e is d, and nothing changes -/
structure TV (c : Ct) (e : Expr) (ρ : EnvT) (σ : Sg) (d : DT) : Prop where
  to : ∀ {Q : DT → Sg → Prop} {E : TX}, Q d σ → TE c e ρ σ Q E
structure TB (c : Ct) (e : Expr) (ρ : EnvT) (σ : Sg) (b : Bool) : Prop where
  to : ∀ {Q : Bool → Sg → Prop} {E : TX}, Q b σ → TT c e ρ σ Q E
structure TBW (c : Ct) (e : Expr) (ρ : EnvT) (σ : Sg) (b : Bool) : Prop where
  to : ∀ {Q : Bool → Sg → Prop} {E : TX}, Q b σ → TW c e ρ σ Q E
structure TVA (c : Ct) (es : List Expr) (ρ : EnvT) (σ : Sg) (ds : List DT) : Prop where
  to : ∀ {Q : List DT → Sg → Prop} {E : TX}, Q ds σ → TA c es ρ σ Q E
section
variable {c : Ct} {ρ : EnvT} {σ : Sg} {Q : DT → Sg → Prop} {QB : Bool → Sg → Prop} {QA : List DT → Sg → Prop} {E : TX} {e a b t : Expr} {es rest : List Expr} {pos p : Pos} {d x y : DT} {ds : List DT}
theorem TE.imp {Q1 : DT → Sg → Prop} (h : TE c e ρ σ Q E) (k : ∀ d σ', Q d σ' → Q1 d σ') : TE c e ρ σ Q1 E := ⟨fun X hX st H K w r xc Q' f => h.run X hX st H K w r xc Q' fun v d σ' H' K' s w' rv q => f v d σ' H' K' s w' rv (k d σ' q)⟩
theorem TT.imp {Q1 : Bool → Sg → Prop} (h : TT c e ρ σ QB E) (k : ∀ d σ', QB d σ' → Q1 d σ') : TT c e ρ σ Q1 E := ⟨fun X hX st H K w r xc Q' f => h.run X hX st H K w r xc Q' fun v d σ' H' K' s w' rv q => f v d σ' H' K' s w' rv (k d σ' q)⟩
theorem TA.imp {Q1 : List DT → Sg → Prop} (h : TA c es ρ σ QA E) (k : ∀ d σ', QA d σ' → Q1 d σ') : TA c es ρ σ Q1 E := ⟨fun X hX st H K w r xc Q' f => h.run X hX st H K w r xc Q' fun v d σ' H' K' s w' rv q => f v d σ' H' K' s w' rv (k d σ' q)⟩
theorem TV.cast (h : TV c e ρ σ x) (q : x = y) : TV c e ρ σ y := q ▸ h
theorem TV.castI {i j : Int} (h : TV c e ρ σ (.int i)) (q : i = j) : TV c e ρ σ (.int j) := q ▸ h
theorem TV.castS {i j : List Nat} (h : TV c e ρ σ (.str i)) (q : i = j) : TV c e ρ σ (.str j) := q ▸ h
theorem TV.castL {i j : List DT} (h : TV c e ρ σ (.lst i)) (q : i = j) : TV c e ρ σ (.lst j) := q ▸ h
theorem TV.castB {i j : Bool} (h : TV c e ρ σ (.bl i)) (q : i = j) : TV c e ρ σ (.bl j) := q ▸ h
theorem TB.cast {i j : Bool} (h : TB c e ρ σ i) (q : i = j) : TB c e ρ σ j := q ▸ h
/-- a cell that is read off as the result is known for good from now on -/
theorem te_frz (h : TE c e ρ σ (fun d σ1 => ∃ p k, d = .ref p ∧ σ1 p = some k ∧ Q k.tree (sd σ1 p)) E) : TE c e ρ σ Q E := ⟨fun X hX st H K w r xc Q' f => fun pins s I => by
  refine thn (h.run X hX st H K w r xc (fun v K1 => ∃ p k σ1 H1, v = .ref p ∧ Gw H σ K H1 σ1 K1 ∧ Wd c.K H1 σ1 K1 ∧ σ1 p = some k ∧ Q k.tree (sd σ1 p)) (fun v d σ1 H1 K1 s w1 rv ⟨p, k, e1, e2, q⟩ => ?_) pins s I) fun u s1 ⟨v, K1, I1, r1, p, k, σ1, H1, e1, s2, w1, e2, q⟩ => ?_
  · subst e1
    cases rv
    exact ⟨p, k, σ1, H1, rfl, s, w1, e2, q⟩
  · subst e1
    obtain ⟨H2, K2, I2, s3, w2, r2⟩ := w1.freeze e2 I1
    exact ⟨_, K2, I2, r1, f _ _ _ H2 K2 (s2.trans s3) w2 r2 q⟩⟩
theorem te_drop (p : Addr) (h : TE c e ρ σ (fun d σ1 => Q d (sd σ1 p)) E) : TE c e ρ σ Q E := ⟨fun X hX st H K w r xc Q' f => h.run X hX st H K w r xc Q' fun v d σ1 H1 K1 s w1 rv q => f v d _ H1 K1 s.drop w1.drop rv q⟩

/-! names, constants -/
def lkT (N : List Str) (ρ : EnvT) (x : Str) : Option DT := if N.idxOf x < N.length then (match ρ[N.idxOf x]? with | some (some d) => some d | _ => none) else none
theorem tv_nm {x : Str} (h : lkT c.N ρ x = some d) (hv : visB c.sc x = true) (hd : (x == ("__debug__" : Str)) = false := by decide) (hcd : (x == ("__classdict__" : Str)) = false := by decide) : TV c (.Name x pos) ρ σ d := ⟨fun {Q E} q => ⟨fun X hX st H K w r xc Q' f => by
  cases hX
  unfold lkT at h
  split at h
  · next hl =>
    split at h
    · next e =>
      cases h
      obtain ⟨v, e1, e2⟩ := r.get _ _ e
      exact cE_of (pe_var (by rw [List.getElem?_eq_getElem hl, List.getElem_idxOf]) (visB_vis hv) hd hcd) ⟨v, e1, f v d σ H K Gw.refl w e2 q⟩
    · cases h
  · cases h⟩⟩
theorem tv_int {i : Int} {k : Nat} : TV c (.Constant (.int i) k pos) ρ σ (.int i) := ⟨fun {Q E} q => ⟨fun X hX st H K w r xc Q' f => cE_of pe_int (f _ _ σ H K Gw.refl w (.int i) q)⟩⟩
theorem tv_str {i : Str} {k : Nat} : TV c (.Constant (.str i) k pos) ρ σ (.str (sOf i)) := ⟨fun {Q E} q => ⟨fun X hX st H K w r xc Q' f => cE_of pe_str (f _ _ σ H K Gw.refl w (by have := Rep.str (F := c.K) (H := H) (sOf i); rwa [S_sOf] at this) q)⟩⟩
theorem tv_bl {i : Bool} {k : Nat} : TV c (.Constant (.bool i) k pos) ρ σ (.bl i) := ⟨fun {Q E} q => ⟨fun X hX st H K w r xc Q' f => cE_of pe_bl (f _ _ σ H K Gw.refl w (.bl i) q)⟩⟩
theorem tv_non {k : Nat} : TV c (.Constant .none k pos) ρ σ .non := ⟨fun {Q E} q => ⟨fun X hX st H K w r xc Q' f => cE_of pe_non (f _ _ σ H K Gw.refl w .non q)⟩⟩
/-- a module's name -/
def GlT (F : PySem.W.Frag) (mg : Str → Option Value) (x : Str) (d : DT) : Prop := ∃ u v, mg x = some u ∧ RelV v u ∧ ∀ H, Rep F H v d
theorem tv_gl {x : Str} (hg : GlS c x) (h : GlT c.K c.mg x d) (hd : (x == ("__debug__" : Str)) = false := by decide) : TV c (.Name x pos) ρ σ d := ⟨fun {Q E} q => ⟨fun X hX st H K w r xc Q' f => by
  cases hX
  obtain ⟨u, v, hm, rv, rp⟩ := h
  exact cE_of (pe_glob hg hm rv hd) (f v d σ H K Gw.refl w (rp H) q)⟩⟩
theorem tv_ty {x : Str} {n : String} (hg : GlS c x) (hm : c.mg x = none) (hv : bootBuiltins x = some (.type n)) (hn : x ≠ "__name__" := by decide) (hd : (x == ("__debug__" : Str)) = false := by decide) : TV c (.Name x pos) ρ σ (.ty n) := ⟨fun {Q E} q => ⟨fun X hX st H K w r xc Q' f => by
  cases hX
  exact cE_of (pe_bltn (v := .ty n) hg hm hv rfl hn hd) (f (.ty n) _ σ H K Gw.refl w (.ty n) q)⟩⟩

/-! operators -/
theorem te_bin {op : Operator} (h : TE c a ρ σ (fun x σ1 => TE c b ρ σ1 (fun y σ2 => ∃ d, PO2 c (binaryOp op) x y σ2 d ∧ Q d σ2) E) E) : TE c (.BinOp a op b pos) ρ σ Q E := ⟨fun X hX st H K w r xc Q' f => by
  refine cE_of (pe_op cO_or cE_pe cE_pe) ?_
  refine h.run X hX st H K w r xc _ fun v x σ1 H1 K1 s1 w1 r1 h1 => ?_
  refine h1.run X hX st H1 K1 w1 (r.same s1.b) (xc.next s1) _ fun u y σ2 H2 K2 s2 w2 r2 ⟨d, h2, q⟩ => ?_
  exact h2.run X hX H2 K2 w2 v u (r1.same s2.b) r2 _ fun z H3 K3 s3 w3 r3 => f z d σ2 H3 K3 (s1.trans (s2.trans s3)) w3 r3 q⟩
theorem tv_bin {op : Operator} (ha : TV c a ρ σ x) (hb : TV c b ρ σ y) (ho : PO2 c (binaryOp op) x y σ d) : TV c (.BinOp a op b pos) ρ σ d := ⟨fun {Q E} q => te_bin (ha.to (hb.to ⟨d, ho, q⟩))⟩
theorem te_un {op : UnaryOp} (h : TE c a ρ σ (fun x σ1 => ∃ d, PO1 c (unaryOp op) x σ1 d ∧ Q d σ1) E) : TE c (.UnaryOp op a pos) ρ σ Q E := ⟨fun X hX st H K w r xc Q' f => by
  refine cE_of (pe_un cU_or cE_pe) ?_
  refine h.run X hX st H K w r xc _ fun v x σ1 H1 K1 s1 w1 r1 ⟨d, h1, q⟩ => ?_
  exact h1.run X hX H1 K1 w1 v r1 _ fun z H3 K3 s3 w3 r3 => f z d σ1 H3 K3 (s1.trans s3) w3 r3 q⟩
theorem tv_un {op : UnaryOp} (ha : TV c a ρ σ x) (ho : PO1 c (unaryOp op) x σ d) : TV c (.UnaryOp op a pos) ρ σ d := ⟨fun {Q E} q => te_un (ha.to ⟨d, ho, q⟩)⟩
theorem te_cmp {op : CmpOp} (h : TE c a ρ σ (fun x σ1 => TE c b ρ σ1 (fun y σ2 => ∃ d, PO2 c (compareOp op) x y σ2 d ∧ Q d σ2) E) E) (hm : behindInMarks op b = false) : TE c (.Compare a [op] [b] pos) ρ σ Q E := ⟨fun X hX st H K w r xc Q' f => by
  refine cE_of (pe_cmpR cO_or cE_pe cE_pe hm) ?_
  refine h.run X hX st H K w r xc _ fun v x σ1 H1 K1 s1 w1 r1 h1 => ?_
  refine h1.run X hX st H1 K1 w1 (r.same s1.b) (xc.next s1) _ fun u y σ2 H2 K2 s2 w2 r2 ⟨d, h2, q⟩ => ?_
  exact h2.run X hX H2 K2 w2 v u (r1.same s2.b) r2 _ fun z H3 K3 s3 w3 r3 => f z d σ2 H3 K3 (s1.trans (s2.trans s3)) w3 r3 q⟩
theorem tv_cmp {op : CmpOp} (ha : TV c a ρ σ x) (hb : TV c b ρ σ y) (ho : PO2 c (compareOp op) x y σ d) (hm : behindInMarks op b = false) : TV c (.Compare a [op] [b] pos) ρ σ d := ⟨fun {Q E} q => te_cmp (ha.to (hb.to ⟨d, ho, q⟩)) hm⟩
theorem tt_cmp {op : CmpOp} (h : TE c a ρ σ (fun x σ1 => TE c b ρ σ1 (fun y σ2 => ∃ r, PO2 c (compareOp op) x y σ2 (.bl r) ∧ QB r σ2) E) E) (hm : behindInMarks op b = false) : TT c (.Compare a [op] [b] pos) ρ σ QB E := ⟨fun X hX st H K w r xc Q' f => by
  refine cT_of (pt_cmpR cO_or cE_pe cE_pe hm) ?_
  refine h.run X hX st H K w r xc _ fun v x σ1 H1 K1 s1 w1 r1 h1 => ?_
  refine h1.run X hX st H1 K1 w1 (r.same s1.b) (xc.next s1) _ fun u y σ2 H2 K2 s2 w2 r2 ⟨d, h2, q⟩ => ?_
  refine h2.run X hX H2 K2 w2 v u (r1.same s2.b) r2 _ fun z H3 K3 s3 w3 r3 => ?_
  cases r3
  exact ⟨d, rfl, f d d σ2 H3 K3 (s1.trans (s2.trans s3)) w3 rfl q⟩⟩
theorem tb_cmp {op : CmpOp} {r : Bool} (ha : TV c a ρ σ x) (hb : TV c b ρ σ y) (ho : PO2 c (compareOp op) x y σ (.bl r)) (hm : behindInMarks op b = false) : TB c (.Compare a [op] [b] pos) ρ σ r := ⟨fun {Q E} q => tt_cmp (ha.to (hb.to ⟨r, ho, q⟩)) hm⟩
theorem te_sub (h : TE c a ρ σ (fun x σ1 => TE c b ρ σ1 (fun y σ2 => ∃ d, POI c x y σ2 d ∧ Q d σ2) E) E) (hs : PlainIx b := by exact fun _ _ => rfl) : TE c (.Subscript a b pos) ρ σ Q E := ⟨fun X hX st H K w r xc Q' f => by
  refine cE_of (pe_ix cI_ix cE_pe cE_pe hs) ?_
  refine h.run X hX st H K w r xc _ fun v x σ1 H1 K1 s1 w1 r1 h1 => ?_
  refine h1.run X hX st H1 K1 w1 (r.same s1.b) (xc.next s1) _ fun u y σ2 H2 K2 s2 w2 r2 ⟨d, h2, q⟩ => ?_
  exact h2.run X hX H2 K2 w2 v u (r1.same s2.b) r2 _ fun z H3 K3 s3 w3 r3 => f z d σ2 H3 K3 (s1.trans (s2.trans s3)) w3 r3 q⟩
theorem tv_sub (ha : TV c a ρ σ x) (hb : TV c b ρ σ y) (ho : POI c x y σ d) (hs : PlainIx b := by exact fun _ _ => rfl) : TV c (.Subscript a b pos) ρ σ d := ⟨fun {Q E} q => te_sub (ha.to (hb.to ⟨d, ho, q⟩)) hs⟩
/-- an optional part of a slice -/
def TO (c : Ct) (o : Option Expr) (ρ : EnvT) (σ : Sg) (Q : Option Int → Sg → Prop) (E : TX) : Prop :=
  match o with
  | none => Q none σ
  | some e => TE c e ρ σ (fun d σ1 => ∃ i, d = .int i ∧ Q (some i) σ1) E
theorem te_slice {lo hi : Option Expr} {p2 : Pos} (h : TE c a ρ σ (fun x σ1 => TO c lo ρ σ1 (fun l σ2 => TO c hi ρ σ2 (fun u σ3 => ∃ d, POL c x l u σ3 d ∧ Q d σ3) E) E) E) : TE c (.Subscript a (.Slice lo hi none p2) pos) ρ σ Q E := ⟨fun X hX st H K w r xc Q' f => by
  cases lo with
  | none =>
    cases hi with
    | none =>
      refine cE_of (pe_slice cL_sl cE_pe po_none po_none) ?_
      refine h.run X hX st H K w r xc _ fun v x σ1 H1 K1 s1 w1 r1 h1 => ?_
      obtain ⟨d, h2, q⟩ := h1
      exact h2.run X hX H1 K1 w1 v r1 _ fun z H3 K3 s3 w3 r3 => f z d σ1 H3 K3 (s1.trans s3) w3 r3 q
    | some u =>
      refine cE_of (pe_slice cL_sl cE_pe po_none (po_some cE_pe)) ?_
      refine h.run X hX st H K w r xc _ fun v x σ1 H1 K1 s1 w1 r1 h1 => ?_
      refine TE.run h1 X hX st H1 K1 w1 (r.same s1.b) (xc.next s1) _ fun u y σ2 H2 K2 s2 w2 r2 ⟨i, ei, d, h2, q⟩ => ?_
      subst ei
      cases r2
      exact ⟨i, rfl, h2.run X hX H2 K2 w2 v (r1.same s2.b) _ fun z H3 K3 s3 w3 r3 => f z d σ2 H3 K3 (s1.trans (s2.trans s3)) w3 r3 q⟩
  | some l =>
    cases hi with
    | none =>
      refine cE_of (pe_slice cL_sl cE_pe (po_some cE_pe) po_none) ?_
      refine h.run X hX st H K w r xc _ fun v x σ1 H1 K1 s1 w1 r1 h1 => ?_
      refine TE.run h1 X hX st H1 K1 w1 (r.same s1.b) (xc.next s1) _ fun u y σ2 H2 K2 s2 w2 r2 ⟨i, ei, h2⟩ => ?_
      obtain ⟨d, h2, q⟩ := h2
      subst ei
      cases r2
      exact ⟨i, rfl, h2.run X hX H2 K2 w2 v (r1.same s2.b) _ fun z H3 K3 s3 w3 r3 => f z d σ2 H3 K3 (s1.trans (s2.trans s3)) w3 r3 q⟩
    | some u =>
      refine cE_of (pe_slice cL_sl cE_pe (po_some cE_pe) (po_some cE_pe)) ?_
      refine h.run X hX st H K w r xc _ fun v x σ1 H1 K1 s1 w1 r1 h1 => ?_
      refine TE.run h1 X hX st H1 K1 w1 (r.same s1.b) (xc.next s1) _ fun u y σ2 H2 K2 s2 w2 r2 ⟨i, ei, h2⟩ => ?_
      subst ei
      cases r2
      refine ⟨i, rfl, ?_⟩
      refine TE.run h2 X hX st H2 K2 w2 (r.same (s1.trans s2).b) (xc.next (s1.trans s2)) _ fun u y σ3 H3 K3 s3 w3 r3 ⟨j, ej, d, h3, q⟩ => ?_
      subst ej
      cases r3
      exact ⟨j, rfl, h3.run X hX H3 K3 w3 v (r1.same (s2.trans s3).b) _ fun z H4 K4 s4 w4 r4 => f z d σ3 H4 K4 (s1.trans (s2.trans (s3.trans s4))) w4 r4 q⟩⟩
/-- .. by values -/
structure TVO (c : Ct) (o : Option Expr) (ρ : EnvT) (σ : Sg) (i : Option Int) : Prop where
  to : ∀ {Q : Option Int → Sg → Prop} {E : TX}, Q i σ → TO c o ρ σ Q E
theorem to_none : TVO c none ρ σ none := ⟨fun q => q⟩
theorem to_some {i : Int} (h : TV c e ρ σ (.int i)) : TVO c (some e) ρ σ (some i) := ⟨fun q => h.to ⟨i, rfl, q⟩⟩
theorem tv_slice {lo hi : Option Expr} {l u : Option Int} {p2 : Pos} (ha : TV c a ρ σ x) (hl : TVO c lo ρ σ l) (hu : TVO c hi ρ σ u) (ho : POL c x l u σ d) : TV c (.Subscript a (.Slice lo hi none p2) pos) ρ σ d :=
  ⟨fun {Q E} q => te_slice (ha.to (hl.to (hu.to ⟨d, ho, q⟩)))⟩

/-! arguments, displays -/
theorem ta_nil (h : QA [] σ) : TA c [] ρ σ QA E := ⟨fun X hX st H K w r xc Q' f => cA_of pa_nil (f [] [] σ H K Gw.refl w .nil h)⟩
theorem ta_cons (h : TE c a ρ σ (fun x σ1 => TA c es ρ σ1 (fun xs σ2 => QA (x :: xs) σ2) E) E) (hs : ∀ env, starEach (a :: es) env = (false, eval a env) :: starEach es env := by intro _; rfl) : TA c (a :: es) ρ σ QA E := ⟨fun X hX st H K w r xc Q' f => by
  refine cA_of (pa_cons cE_pe cA_pa (hs _)) ?_
  refine h.run X hX st H K w r xc _ fun v x σ1 H1 K1 s1 w1 r1 h1 => ?_
  exact h1.run X hX st H1 K1 w1 (r.same s1.b) (xc.next s1) _ fun us xs σ2 H2 K2 s2 w2 r2 q => f (v :: us) (x :: xs) σ2 H2 K2 (s1.trans s2) w2 (.cons (r1.same s2.b) r2) q⟩
theorem tva_nil : TVA c [] ρ σ [] := ⟨fun q => ta_nil q⟩
theorem tva_cons (ha : TV c a ρ σ x) (hb : TVA c es ρ σ ds) (hs : ∀ env, starEach (a :: es) env = (false, eval a env) :: starEach es env := by intro _; rfl) : TVA c (a :: es) ρ σ (x :: ds) := ⟨fun q => ta_cons (ha.to (hb.to q)) hs⟩
theorem te_lst (h : TA c es ρ σ (fun ds σ1 => ds.length ≤ 16777216 ∧ Q (.lst ds) σ1) E) : TE c (.List es pos) ρ σ Q E := ⟨fun X hX st H K w r xc Q' f => by
  refine cE_of (pe_lst cA_pa) ?_
  refine h.run X hX st H K w r xc _ fun vs ds σ1 H1 K1 s1 w1 r1 ⟨hl, q⟩ => ?_
  refine ⟨by rw [sizeLine_eq, r1.length]; exact hl, fun p hp => ?_⟩
  obtain ⟨s2, w2⟩ := w1.new (o := .lst vs) hp
  exact f _ _ σ1 _ _ (s1.trans s2) w2 (.lst upd_same (r1.same s2.b)) q⟩
/-- .. that is to change -/
theorem te_lstC (h : TA c es ρ σ (fun ds σ1 => ds.length ≤ 16777216 ∧ ∀ p, σ1 p = none → Q (.ref p) (su σ1 p (.lst ds))) E) : TE c (.List es pos) ρ σ Q E := ⟨fun X hX st H K w r xc Q' f => by
  refine cE_of (pe_lst cA_pa) ?_
  refine h.run X hX st H K w r xc _ fun vs ds σ1 H1 K1 s1 w1 r1 ⟨hl, q⟩ => ?_
  refine ⟨by rw [sizeLine_eq, r1.length]; exact hl, fun p hp => ?_⟩
  exact f _ _ _ H1 _ (s1.trans (Gw.newC hp)) ((w1.push (o := .lst vs) hp).add (c := .lst ds) (none_of w1.le hp) ⟨vs, upd_same, r1⟩) (.ref p) (q p (w1.free hp))⟩
theorem te_tup {k : Nat} (h : TA c es ρ σ (fun ds σ1 => ds.length ≤ 16777216 ∧ Q (.tup ds) σ1) E) : TE c (.Tuple es k pos) ρ σ Q E := ⟨fun X hX st H K w r xc Q' f => by
  refine cE_of (pe_tup cA_pa) ?_
  refine h.run X hX st H K w r xc _ fun vs ds σ1 H1 K1 s1 w1 r1 ⟨hl, q⟩ => ?_
  refine ⟨by rw [sizeLine_eq, r1.length]; exact hl, fun p hp => ?_⟩
  obtain ⟨s2, w2⟩ := w1.new (o := .tup vs) hp
  exact f _ _ σ1 _ _ (s1.trans s2) w2 (.tup (SqT.of upd_same) (r1.same s2.b)) q⟩
theorem tv_lst (h : TVA c es ρ σ ds) (hl : ds.length ≤ 16777216 := by exact Nat.le_of_ble_eq_true rfl) : TV c (.List es pos) ρ σ (.lst ds) := ⟨fun q => te_lst (h.to ⟨hl, q⟩)⟩
theorem tv_tup {k : Nat} (h : TVA c es ρ σ ds) (hl : ds.length ≤ 16777216 := by exact Nat.le_of_ble_eq_true rfl) : TV c (.Tuple es k pos) ρ σ (.tup ds) := ⟨fun q => te_tup (h.to ⟨hl, q⟩)⟩

/-! tests -/
theorem tt_val (h : TE c e ρ σ (fun d σ1 => ∃ r, d = .bl r ∧ QB r σ1) E)
    (he : ∀ env whole, isTrue e env whole = (do let v ← whole; standAt e.pos; holding [v] (truthy v)) := by intro _ _; rfl) : TT c e ρ σ QB E := ⟨fun X hX st H K w r xc Q' f => by
  refine cT_of (pt_val cE_pe (he _)) ?_
  refine h.run X hX st H K w r xc _ fun v d σ1 H1 K1 s1 w1 r1 ⟨b, e1, q⟩ => ?_
  subst e1
  cases r1
  exact ⟨b, rfl, f b b σ1 H1 K1 s1 w1 rfl q⟩⟩
theorem tb_val {r : Bool} (h : TV c e ρ σ (.bl r)) (he : ∀ env whole, isTrue e env whole = (do let v ← whole; standAt e.pos; holding [v] (truthy v)) := by intro _ _; rfl) : TB c e ρ σ r := ⟨fun q => tt_val (h.to ⟨r, rfl, q⟩) he⟩
theorem tt_not (h : TT c a ρ σ (fun r σ1 => QB (!r) σ1) E) : TT c (.UnaryOp .Not a pos) ρ σ QB E := ⟨fun X hX st H K w r xc Q' f => by
  refine cT_of (pt_not cT_pt) ?_
  exact h.run X hX st H K w r xc _ fun v d σ1 H1 K1 s1 w1 r1 q => f (!v) (!d) σ1 H1 K1 s1 w1 (congrArg (!·) r1) q⟩
theorem tb_not {r : Bool} (h : TB c a ρ σ r) : TB c (.UnaryOp .Not a pos) ρ σ (!r) := ⟨fun q => tt_not (h.to q)⟩
theorem tt_W (h : TW c e ρ σ QB E) : TT c e ρ σ QB E := ⟨fun X hX st H K w r xc Q' f => cT_of cW_pw.pt (h.run X hX st H K w r xc Q' f)⟩
theorem tb_W {r : Bool} (h : TBW c e ρ σ r) : TB c e ρ σ r := ⟨fun q => tt_W (h.to q)⟩
theorem tw_and1 (h : TT c a ρ σ QB E) : TW c (.BoolOp .And [a] pos) ρ σ QB E := ⟨fun X hX st H K w r xc Q' f => cW_of (pw_and1 cT_pt) (h.run X hX st H K w r xc Q' f)⟩
theorem tw_or1 (h : TT c a ρ σ QB E) : TW c (.BoolOp .Or [a] pos) ρ σ QB E := ⟨fun X hX st H K w r xc Q' f => cW_of (pw_or1 cT_pt) (h.run X hX st H K w r xc Q' f)⟩
theorem tw_and (h : TT c a ρ σ (fun r σ1 => (r = true → TW c (.BoolOp .And (b :: rest) pos) ρ σ1 QB E) ∧ (r = false → QB false σ1)) E) : TW c (.BoolOp .And (a :: b :: rest) pos) ρ σ QB E := ⟨fun X hX st H K w r xc Q' f => by
  refine cW_of (pw_and cT_pt cW_pw) ?_
  refine h.run X hX st H K w r xc _ fun v d σ1 H1 K1 s1 w1 r1 ⟨h1, h2⟩ => ?_
  subst r1
  cases v with
  | true => exact iteT ((h1 rfl).run X hX st H1 K1 w1 (r.same s1.b) (xc.next s1) _ fun v d σ2 H2 K2 s2 w2 r2 q => f v d σ2 H2 K2 (s1.trans s2) w2 r2 q)
  | false => exact iteF (f false false σ1 H1 K1 s1 w1 rfl (h2 rfl))⟩
theorem tw_or (h : TT c a ρ σ (fun r σ1 => (r = false → TW c (.BoolOp .Or (b :: rest) pos) ρ σ1 QB E) ∧ (r = true → QB true σ1)) E) : TW c (.BoolOp .Or (a :: b :: rest) pos) ρ σ QB E := ⟨fun X hX st H K w r xc Q' f => by
  refine cW_of (pw_or cT_pt cW_pw) ?_
  refine h.run X hX st H K w r xc _ fun v d σ1 H1 K1 s1 w1 r1 ⟨h1, h2⟩ => ?_
  subst r1
  cases v with
  | false => exact iteF ((h1 rfl).run X hX st H1 K1 w1 (r.same s1.b) (xc.next s1) _ fun v d σ2 H2 K2 s2 w2 r2 q => f v d σ2 H2 K2 (s1.trans s2) w2 r2 q)
  | true => exact iteT (f true true σ1 H1 K1 s1 w1 rfl (h2 rfl))⟩
theorem tbw_and1 {r : Bool} (h : TB c a ρ σ r) : TBW c (.BoolOp .And [a] pos) ρ σ r := ⟨fun q => tw_and1 (h.to q)⟩
theorem tbw_or1 {r : Bool} (h : TB c a ρ σ r) : TBW c (.BoolOp .Or [a] pos) ρ σ r := ⟨fun q => tw_or1 (h.to q)⟩
theorem tbw_and {r s : Bool} (h : TB c a ρ σ r) (h2 : r = true → TBW c (.BoolOp .And (b :: rest) pos) ρ σ s) : TBW c (.BoolOp .And (a :: b :: rest) pos) ρ σ (r && s) := ⟨fun {Q E} q => tw_and (h.to ⟨fun e => (h2 e).to (by rw [e] at q; exact q), fun e => by rw [e] at q; exact q⟩)⟩
theorem tbw_or {r s : Bool} (h : TB c a ρ σ r) (h2 : r = false → TBW c (.BoolOp .Or (b :: rest) pos) ρ σ s) : TBW c (.BoolOp .Or (a :: b :: rest) pos) ρ σ (r || s) := ⟨fun {Q E} q => tw_or (h.to ⟨fun e => (h2 e).to (by rw [e] at q; exact q), fun e => by rw [e] at q; exact q⟩)⟩
/-! and, or, not as values -/
theorem te_one {op : BoolOp} (h : TE c a ρ σ Q E) : TE c (.BoolOp op [a] pos) ρ σ Q E := ⟨fun X hX st H K w r xc Q' f => cE_of (pe_one cE_pe) (h.run X hX st H K w r xc Q' f)⟩
theorem te_and (h : TE c a ρ σ (fun d σ1 => ∃ r, d = .bl r ∧ (r = true → TE c (.BoolOp .And (b :: rest) pos) ρ σ1 Q E) ∧ (r = false → Q (.bl false) σ1)) E) : TE c (.BoolOp .And (a :: b :: rest) pos) ρ σ Q E := ⟨fun X hX st H K w r xc Q' f => by
  refine cE_of (pe_and cE_pe cE_pe) ?_
  refine h.run X hX st H K w r xc _ fun v d σ1 H1 K1 s1 w1 r1 ⟨t, e1, h1, h2⟩ => ?_
  subst e1
  cases r1
  refine ⟨t, rfl, ?_⟩
  cases t with
  | true => exact iteT ((h1 rfl).run X hX st H1 K1 w1 (r.same s1.b) (xc.next s1) _ fun v d σ2 H2 K2 s2 w2 r2 q => f v d σ2 H2 K2 (s1.trans s2) w2 r2 q)
  | false => exact iteF (f _ _ σ1 H1 K1 s1 w1 (.bl false) (h2 rfl))⟩
theorem te_or (h : TE c a ρ σ (fun d σ1 => ∃ r, d = .bl r ∧ (r = false → TE c (.BoolOp .Or (b :: rest) pos) ρ σ1 Q E) ∧ (r = true → Q (.bl true) σ1)) E) : TE c (.BoolOp .Or (a :: b :: rest) pos) ρ σ Q E := ⟨fun X hX st H K w r xc Q' f => by
  refine cE_of (pe_or cE_pe cE_pe) ?_
  refine h.run X hX st H K w r xc _ fun v d σ1 H1 K1 s1 w1 r1 ⟨t, e1, h1, h2⟩ => ?_
  subst e1
  cases r1
  refine ⟨t, rfl, ?_⟩
  cases t with
  | false => exact iteF ((h1 rfl).run X hX st H1 K1 w1 (r.same s1.b) (xc.next s1) _ fun v d σ2 H2 K2 s2 w2 r2 q => f v d σ2 H2 K2 (s1.trans s2) w2 r2 q)
  | true => exact iteT (f _ _ σ1 H1 K1 s1 w1 (.bl true) (h2 rfl))⟩
theorem tv_one {op : BoolOp} (h : TV c a ρ σ d) : TV c (.BoolOp op [a] pos) ρ σ d := ⟨fun q => te_one (h.to q)⟩
theorem tv_and {r s : Bool} (h : TV c a ρ σ (.bl r)) (h2 : r = true → TV c (.BoolOp .And (b :: rest) pos) ρ σ (.bl s)) : TV c (.BoolOp .And (a :: b :: rest) pos) ρ σ (.bl (r && s)) := ⟨fun {Q E} q => te_and (h.to ⟨r, rfl, fun e => (h2 e).to (by rw [e] at q; exact q), fun e => by rw [e] at q; exact q⟩)⟩
theorem tv_or {r s : Bool} (h : TV c a ρ σ (.bl r)) (h2 : r = false → TV c (.BoolOp .Or (b :: rest) pos) ρ σ (.bl s)) : TV c (.BoolOp .Or (a :: b :: rest) pos) ρ σ (.bl (r || s)) := ⟨fun {Q E} q => te_or (h.to ⟨r, rfl, fun e => (h2 e).to (by rw [e] at q; exact q), fun e => by rw [e] at q; exact q⟩)⟩
theorem te_not (h : TE c a ρ σ (fun d σ1 => ∃ r, d = .bl r ∧ Q (.bl (!r)) σ1) E) : TE c (.UnaryOp .Not a pos) ρ σ Q E := ⟨fun X hX st H K w r xc Q' f => by
  refine cE_of (pe_not cE_pe) ?_
  refine h.run X hX st H K w r xc _ fun v d σ1 H1 K1 s1 w1 r1 ⟨t, e1, q⟩ => ?_
  subst e1
  cases r1
  exact ⟨t, rfl, f _ _ σ1 H1 K1 s1 w1 (.bl _) q⟩⟩
theorem tv_not {r : Bool} (h : TV c a ρ σ (.bl r)) : TV c (.UnaryOp .Not a pos) ρ σ (.bl (!r)) := ⟨fun q => te_not (h.to ⟨r, rfl, q⟩)⟩
/-- a if t else b -/
theorem te_if (h : TT c t ρ σ (fun r σ1 => (r = true → TE c a ρ σ1 Q E) ∧ (r = false → TE c b ρ σ1 Q E)) E) : TE c (.IfExp t a b pos) ρ σ Q E := ⟨fun X hX st H K w r xc Q' f => by
  refine cE_of (pe_ifExp cT_pt cE_pe cE_pe) ?_
  refine h.run X hX st H K w r xc _ fun v d σ1 H1 K1 s1 w1 r1 ⟨h1, h2⟩ => ?_
  subst r1
  cases v with
  | true => exact iteT ((h1 rfl).run X hX st H1 K1 w1 (r.same s1.b) (xc.next s1) _ (Fo.next f s1))
  | false => exact iteF ((h2 rfl).run X hX st H1 K1 w1 (r.same s1.b) (xc.next s1) _ (Fo.next f s1))⟩
theorem tv_if {r : Bool} (h : TB c t ρ σ r) (h1 : r = true → TV c a ρ σ x) (h2 : r = false → TV c b ρ σ y) : TV c (.IfExp t a b pos) ρ σ (if r = true then x else y) := ⟨fun {Q E} q => te_if (h.to ⟨fun e => (h1 e).to (by rw [if_pos e] at q; exact q), fun e => (h2 e).to (by rw [if_neg (by rw [e]; decide)] at q; exact q)⟩)⟩
/-- a < b < d -/
theorem tv_chain {d3 : Expr} {z : DT} {o o' : CmpOp} {r s : Bool} (ha : TV c a ρ σ x) (hb : TV c b ρ σ y) (hd : r = true → TV c d3 ρ σ z) (ho : PO2 c (compareOp o) x y σ (.bl r)) (ho' : r = true → PO2 c (compareOp o') y z σ (.bl s))
    (hm : lastMarks [o, o'] [b, d3] = false := by with_unfolding_all rfl) : TV c (.Compare a [o, o'] [b, d3] pos) ρ σ (.bl (r && s)) := ⟨fun {Q E} q => ⟨fun X hX st H K w rr xc Q' f => by
  refine cE_of (pe_chain cO_or cO_or cE_pe cE_pe cE_pe hm) ?_
  refine (ha.to (Q := fun d σ' => d = x ∧ σ' = σ) ⟨rfl, rfl⟩).run X hX st H K w rr xc _ fun v d1 σ1 H1 K1 s1 w1 r1 ⟨z1, z2⟩ => ?_
  subst z1 z2
  refine (hb.to (Q := fun d σ' => d = y ∧ σ' = σ1) ⟨rfl, rfl⟩).run X hX st H1 K1 w1 (rr.same s1.b) (xc.next s1) _ fun u d2 σ2 H2 K2 s2 w2 r2 ⟨z1, z2⟩ => ?_
  subst z1 z2
  refine ho.run X hX H2 K2 w2 v u (r1.same s2.b) r2 _ fun q1 H3 K3 s3 w3 r3 => ?_
  cases r3
  refine ⟨r, rfl, ?_⟩
  cases r with
  | false => exact iteF (f _ _ _ H3 K3 (s1.trans (s2.trans s3)) w3 (.bl false) q)
  | true =>
    refine iteT ?_
    refine ((hd rfl).to (Q := fun d σ' => d = z ∧ σ' = σ2) ⟨rfl, rfl⟩).run X hX st H3 K3 w3 (rr.same (s1.trans (s2.trans s3)).b) (xc.next (s1.trans (s2.trans s3))) _ fun u3 d3 σ3 H4 K4 s4 w4 r4 ⟨z1, z2⟩ => ?_
    subst z1 z2
    exact (ho' rfl).run X hX H4 K4 w4 u u3 (r2.same (s3.trans s4).b) r4 _ fun q2 H5 K5 s5 w5 r5 => f _ _ _ H5 K5 (s1.trans (s2.trans (s3.trans (s4.trans s5)))) w5 r5 q⟩⟩
end
end Y

/-! Y2: calls, methods, what is walked, comprehensions. -/
namespace Y
open PySem PySem.Spec L2 SX Z
open PyProof.Rows (subscriptTail)
theorem same_of_none {H K : Hp} {p : Addr} (s : Same H K) (h : K p = none) : H p = none := none_of s h

/-! ### calls -/
abbrev TSpec := List DT → Sg → (DT → Sg → Prop) → TX → Prop
def spT (F : PySem.W.Frag) (spec : TSpec) : Sp := fun vs K Q E => ∃ ds H σ Qd Ed, Wd F H σ K ∧ RepA F H vs ds ∧ spec ds σ Qd Ed ∧
  (∀ v d σ' H' K', Gw H σ K H' σ' K' → Wd F H' σ' K' → Rep F H' v d → Qd d σ' → Q v K') ∧ (∀ cls dA x σ' H' K', Gw H σ K H' σ' K' → Wd F H' σ' K' → XRep F H' dA x → Ed cls x σ' → E cls dA K')
/-- a def that keeps its promise -/
def DtQ (hp : HP) (P : Program) (w : World) (F : PySem.W.Frag) (mg : Str → Option Value) (base : Heap) (x : Str) (ps : List Str) (k : Nat) (spec : TSpec) : Prop :=
  ∃ f fd, mg x = some (.ref f) ∧ PySem.W.keepIn F (.ref f) = true ∧ Binds F fd ps [] ∧ FnC hp P w F mg base k f fd ps (spT F spec)
abbrev Dt := DtQ none
section
variable {c : Ct} {ρ : EnvT} {σ : Sg} {Q : DT → Sg → Prop} {QA : List DT → Sg → Prop} {E : TX} {e a b t o : Expr} {es rest : List Expr} {pos p apos : Pos} {d x y : DT} {ds : List DT}
theorem te_own {f : Str} {ps : List Str} {k : Nat} {spec : TSpec} (dt : DtQ c.hp c.P c.w c.K c.mg c.base f ps k spec) (hk : k ≤ c.k) (hg : GlS c f) (h : TA c (a :: es) ρ σ (fun ds σ1 => spec ds σ1 Q E) E) (hdb : (f == ("__debug__" : Str)) = false := by decide)
    (he : ∀ env, starEach (a :: es) env = (false, eval a env) :: starEach es env := by intro _; rfl) (hpl : ∀ pos env, (backTo pos (starEach es env)).any (·.1) = false := by intro _ _; rfl) : TE c (.Call (.Name f p) (a :: es) [] pos) ρ σ Q E := ⟨fun X hX st H K w r xc Q' fo => by
  obtain ⟨fa, fd, hm, kp, hb, F⟩ := dt
  have hX' := hX
  cases hX' with
  | mk _ k' Wx fl hpp hrH hcf hh hp' ht hf hN hU hst =>
    refine cE_of (pe_callC (W := Wx) F (hrH.mono hk) (fun e => (hcf e).2.hd) hh hU hg hm kp hb ht cA_pa hdb (he _) (hpl _ _)) ?_
    refine h.run X hX st H K w r xc _ fun vs ds σ1 H1 K1 s1 w1 r1 q => ?_
    exact ⟨ds, H1, σ1, Q, E, w1, r1, q, fun v d σ' H' K' s => fo v d σ' H' K' (s1.trans s), fun cls dA x σ' H' K' s => xc cls dA x σ' H' K' (s1.trans s)⟩⟩
theorem te_callB {f : Str} {id : String} (hg : GlS c f) (hm : c.mg f = none) (hv : bootBuiltins f = some (.builtin id)) (h : TA c (a :: es) ρ σ (fun ds σ1 => ∃ d, POF c (.builtin id) ds σ1 d ∧ Q d σ1) E) (hn : f ≠ "__name__" := by decide) (hdb : (f == ("__debug__" : Str)) = false := by decide)
    (he : ∀ env, starEach (a :: es) env = (false, eval a env) :: starEach es env := by intro _; rfl) (hpl : ∀ pos env, (backTo pos (starEach es env)).any (·.1) = false := by intro _ _; rfl) : TE c (.Call (.Name f p) (a :: es) [] pos) ρ σ Q E := ⟨fun X hX st H K w r xc Q' fo => by
  have hX' := hX
  cases hX' with
  | mk _ k' Wx fl hpp hrH hcf hh hp' ht hf hN hU hst =>
    refine cE_of (pe_callB cF_cr hg hm hv cA_pa hn hdb (he _) (hpl _ _)) ?_
    refine h.run X hX st H K w r xc _ fun vs ds σ1 H1 K1 s1 w1 r1 ⟨d, h1, q⟩ => ?_
    exact h1.run X hX H1 K1 w1 vs r1 _ fun z H2 K2 s2 w2 r2 => fo z d σ1 H2 K2 (s1.trans s2) w2 r2 q⟩
theorem te_callTy {f : Str} {T : String} (hg : GlS c f) (hm : c.mg f = none) (hv : bootBuiltins f = some (.type T)) (h : TA c (a :: es) ρ σ (fun ds σ1 => ∃ d, POF c (.type T) ds σ1 d ∧ Q d σ1) E) (hn : f ≠ "__name__" := by decide) (hdb : (f == ("__debug__" : Str)) = false := by decide)
    (he : ∀ env, starEach (a :: es) env = (false, eval a env) :: starEach es env := by intro _; rfl) (hpl : ∀ pos env, (backTo pos (starEach es env)).any (·.1) = false := by intro _ _; rfl) : TE c (.Call (.Name f p) (a :: es) [] pos) ρ σ Q E := ⟨fun X hX st H K w r xc Q' fo => by
  have hX' := hX
  cases hX' with
  | mk _ k' Wx fl hpp hrH hcf hh hp' ht hf hN hU hst =>
    refine cE_of (pe_callTy cF_cr hg hm hv cA_pa hn hdb (he _) (hpl _ _)) ?_
    refine h.run X hX st H K w r xc _ fun vs ds σ1 H1 K1 s1 w1 r1 ⟨d, h1, q⟩ => ?_
    exact h1.run X hX H1 K1 w1 vs r1 _ fun z H2 K2 s2 w2 r2 => fo z d σ1 H2 K2 (s1.trans s2) w2 r2 q⟩
theorem tv_callB {f : Str} {id : String} (hg : GlS c f) (hm : c.mg f = none) (hv : bootBuiltins f = some (.builtin id)) (ha : TVA c (a :: es) ρ σ ds) (ho : POF c (.builtin id) ds σ d) (hn : f ≠ "__name__" := by decide) (hdb : (f == ("__debug__" : Str)) = false := by decide)
    (he : ∀ env, starEach (a :: es) env = (false, eval a env) :: starEach es env := by intro _; rfl) (hpl : ∀ pos env, (backTo pos (starEach es env)).any (·.1) = false := by intro _ _; rfl) : TV c (.Call (.Name f p) (a :: es) [] pos) ρ σ d := ⟨fun q => te_callB hg hm hv (ha.to ⟨d, ho, q⟩) hn hdb he hpl⟩
theorem tv_callTy {f : Str} {T : String} (hg : GlS c f) (hm : c.mg f = none) (hv : bootBuiltins f = some (.type T)) (ha : TVA c (a :: es) ρ σ ds) (ho : POF c (.type T) ds σ d) (hn : f ≠ "__name__" := by decide) (hdb : (f == ("__debug__" : Str)) = false := by decide)
    (he : ∀ env, starEach (a :: es) env = (false, eval a env) :: starEach es env := by intro _; rfl) (hpl : ∀ pos env, (backTo pos (starEach es env)).any (·.1) = false := by intro _ _; rfl) : TV c (.Call (.Name f p) (a :: es) [] pos) ρ σ d := ⟨fun q => te_callTy hg hm hv (ha.to ⟨d, ho, q⟩) hn hdb he hpl⟩
/-- a def whose promise is a value of the arguments -/
theorem tv_own {f : Str} {ps : List Str} {k : Nat} {spec : TSpec} (dt : DtQ c.hp c.P c.w c.K c.mg c.base f ps k spec) (hk : k ≤ c.k) (hg : GlS c f) (ha : TVA c (a :: es) ρ σ ds) (hs : ∀ {Q : DT → Sg → Prop} {E : TX}, Q d σ → spec ds σ Q E) (hdb : (f == ("__debug__" : Str)) = false := by decide)
    (he : ∀ env, starEach (a :: es) env = (false, eval a env) :: starEach es env := by intro _; rfl) (hpl : ∀ pos env, (backTo pos (starEach es env)).any (·.1) = false := by intro _ _; rfl) : TV c (.Call (.Name f p) (a :: es) [] pos) ρ σ d := ⟨fun {Q E} q => te_own dt hk hg (ha.to (hs q)) hdb he hpl⟩
/-! methods of built-in types -/
/-- d is of the built-in type T -/
def TyIs (c : Ct) (T : String) (σ : Sg) (d : DT) : Prop := ∀ X, Con c X → ∀ H K, Wd c.K H σ K → ∀ x, Rep c.K H x d → ∀ pins st s v, Inv X pins st K s → RelV x v → s.TypeIs v T ∧ ∀ a, v = .ref a → ∃ ob, s.heap.get? a = some ob ∧ ob.dict = none
theorem te_meth {name : Str} {T id : String} (pa : PlainAttrs T) (slot : Slot T name id) (hty : typeOf (.builtin id) = pure (.type "method_descriptor"))
    (h : TE c o ρ σ (fun x σ1 => TyIs c T σ1 x ∧ TA c (a :: es) ρ σ1 (fun xs σ2 => TOM c id x xs σ2 Q) E) E)
    (hbase : ∀ env, attributeBase o name env (eval o env) = eval o env := by intro _; rfl)
    (hfew : ∀ env, ((backTo pos (starEach (a :: es) env)).all (fun x => !x.1) && (backToKw pos (keywordEach [] env)).all (fun x => x.1.isSome)
      && decide ((a :: es).length + ([] : List Keyword).length + (if ([] : List Keyword).isEmpty then 0 else 1) < 30)) = true := by intro _; rfl)
    (hline : (apos.endLine == pos.line) = true := by rfl) (he : ∀ env, starEach (a :: es) env = (false, eval a env) :: starEach es env := by intro _; rfl) (hpl : ∀ pos env, (backTo pos (starEach es env)).any (·.1) = false := by intro _ _; rfl) :
    TE c (.Call (.Attribute o name apos) (a :: es) [] pos) ρ σ Q E := ⟨fun X hX st H K w r xc Q' fo => fun pins s I => by
  have hX' := hX
  cases hX' with
  | mk _ k' Wx fl hpp hrH hcf hh hp' ht hf hN hU hst =>
    refine wpAny_Call_method_late (hbase _) (hfew _) hline rfl (thn (h.run X hX st H K w r xc (fun v K1 => ∃ x σ1 H1, Gw H σ K H1 σ1 K1 ∧ Wd X.K H1 σ1 K1 ∧ Rep X.K H1 v x ∧ TyIs ⟨X.prog, X.w, X.K, X.mg, X.base, X.N, X.env.scope, k', Wx, fl, hpp⟩ T σ1 x ∧ TA ⟨X.prog, X.w, X.K, X.mg, X.base, X.N, X.env.scope, k', Wx, fl, hpp⟩ (a :: es) ρ σ1 (fun xs σ2 => TOM ⟨X.prog, X.w, X.K, X.mg, X.base, X.N, X.env.scope, k', Wx, fl, hpp⟩ id x xs σ2 Q) E)
      (fun v x σ1 H1 K1 s1 w1 r1 ⟨q1, q2⟩ => ⟨x, σ1, H1, s1, w1, r1, q1, q2⟩) pins s I) fun u s1 ⟨v, K1, I1, rv, x, σ1, H1, sa, w1, r1, q1, q2⟩ => ?_)
    obtain ⟨h1, h2⟩ := q1 X hX H1 K1 w1 v r1 pins st s1 u I1 rv
    refine ⟨T, id, pa, slot, hty, h1, h2, ?_⟩
    have hA := q2.run X hX st H1 K1 w1 (r.same sa.b) (xc.next sa) (fun vs K2 => ∃ xs σ2 H2, Gw H1 σ1 K1 H2 σ2 K2 ∧ Wd X.K H2 σ2 K2 ∧ RepA X.K H2 vs xs ∧ TOM ⟨X.prog, X.w, X.K, X.mg, X.base, X.N, X.env.scope, k', Wx, fl, hpp⟩ id x xs σ2 Q) (fun vs xs σ2 H2 K2 s2 w2 r2 q => ⟨xs, σ2, H2, s2, w2, r2, q⟩) pos pins s1 I1
    rw [he] at hA ⊢
    refine Calls.callWith_builtin (by show (false || (backTo pos (starEach es X.env)).any (·.1)) = false; rw [hpl] <;> rfl) (Calls.evalArgs_plain ?_)
    refine thn hA fun us s2 ⟨vs, K2, I2, rvs, xs, σ2, H2, sb, w2, r2, q⟩ => ?_
    exact q.run X hX H2 K2 w2 v vs (r1.same sb.b) r2 Q' (fun z dz σ3 H3 K3 s3 => fo z dz σ3 H3 K3 (sa.trans (sb.trans s3))) pins s2 st u us I2 rv rvs⟩
theorem te_meth0 {name : Str} {T id : String} (pa : PlainAttrs T) (slot : Slot T name id) (hty : typeOf (.builtin id) = pure (.type "method_descriptor"))
    (h : TE c o ρ σ (fun x σ1 => TyIs c T σ1 x ∧ TOM c id x [] σ1 Q) E) (hbase : ∀ env, attributeBase o name env (eval o env) = eval o env := by intro _; rfl) (hline : (apos.endLine == pos.line) = true := by rfl) :
    TE c (.Call (.Attribute o name apos) [] [] pos) ρ σ Q E := ⟨fun X hX st H K w r xc Q' fo => fun pins s I => by
  have hX' := hX
  cases hX' with
  | mk _ k' Wx fl hpp hrH hcf hh hp' ht hf hN hU hst =>
    refine wpAny_Call_method0_late (hbase _) hline (thn (h.run X hX st H K w r xc (fun v K1 => ∃ x σ1 H1, Gw H σ K H1 σ1 K1 ∧ Wd X.K H1 σ1 K1 ∧ Rep X.K H1 v x ∧ TyIs ⟨X.prog, X.w, X.K, X.mg, X.base, X.N, X.env.scope, k', Wx, fl, hpp⟩ T σ1 x ∧ TOM ⟨X.prog, X.w, X.K, X.mg, X.base, X.N, X.env.scope, k', Wx, fl, hpp⟩ id x [] σ1 Q)
      (fun v x σ1 H1 K1 s1 w1 r1 ⟨q1, q2⟩ => ⟨x, σ1, H1, s1, w1, r1, q1, q2⟩) pins s I) fun u s1 ⟨v, K1, I1, rv, x, σ1, H1, sa, w1, r1, q1, q2⟩ => ?_)
    obtain ⟨h1, h2⟩ := q1 X hX H1 K1 w1 v r1 pins st s1 u I1 rv
    exact ⟨T, id, pa, slot, hty, h1, h2, Calls.callWith_builtin rfl (PySem.evalArgs_none (q2.run X hX H1 K1 w1 v [] r1 .nil Q' (fun z dz σ3 H3 K3 s3 => fo z dz σ3 H3 K3 (sa.trans s3)) pins s1 st u [] I1 rv .nil))⟩⟩
/-- a method that changes nothing -/
structure POM (c : Ct) (id : String) (x : DT) (xs : List DT) (σ : Sg) (d : DT) : Prop where
  to : ∀ {Q : DT → Sg → Prop}, Q d σ → TOM c id x xs σ Q
theorem tv_meth {name : Str} {T id : String} (pa : PlainAttrs T) (slot : Slot T name id) (hty : typeOf (.builtin id) = pure (.type "method_descriptor")) (ho : TV c o ρ σ x) (ty : TyIs c T σ x) (ha : TVA c (a :: es) ρ σ ds) (hm : POM c id x ds σ d)
    (hbase : ∀ env, attributeBase o name env (eval o env) = eval o env := by intro _; rfl)
    (hfew : ∀ env, ((backTo pos (starEach (a :: es) env)).all (fun x => !x.1) && (backToKw pos (keywordEach [] env)).all (fun x => x.1.isSome)
      && decide ((a :: es).length + ([] : List Keyword).length + (if ([] : List Keyword).isEmpty then 0 else 1) < 30)) = true := by intro _; rfl)
    (hline : (apos.endLine == pos.line) = true := by rfl) (he : ∀ env, starEach (a :: es) env = (false, eval a env) :: starEach es env := by intro _; rfl) (hpl : ∀ pos env, (backTo pos (starEach es env)).any (·.1) = false := by intro _ _; rfl) :
    TV c (.Call (.Attribute o name apos) (a :: es) [] pos) ρ σ d := ⟨fun q => te_meth pa slot hty (ho.to ⟨ty, ha.to (hm.to q)⟩) hbase hfew hline he hpl⟩
theorem tv_meth0 {name : Str} {T id : String} (pa : PlainAttrs T) (slot : Slot T name id) (hty : typeOf (.builtin id) = pure (.type "method_descriptor")) (ho : TV c o ρ σ x) (ty : TyIs c T σ x) (hm : POM c id x [] σ d)
    (hbase : ∀ env, attributeBase o name env (eval o env) = eval o env := by intro _; rfl) (hline : (apos.endLine == pos.line) = true := by rfl) : TV c (.Call (.Attribute o name apos) [] [] pos) ρ σ d := ⟨fun q => te_meth0 pa slot hty (ho.to ⟨ty, hm.to q⟩) hbase hline⟩
end

/-! ### what is walked -/
/-- read: anything where nothing is handled, else a list -/
def cPQ (hp : HP) (X : Cx) (tg iter : Expr) : L2.TI := match hp with
  | none => cP X tg iter
  | some _ => iList X.K (cE X iter)
/-- iter is walked, its items are ds -/
structure TI (c : Ct) (tg iter : Expr) (ρ : EnvT) (σ : Sg) (Q : List DT → Sg → Prop) (E : TX) : Prop where
  run : ∀ X, Con c X → ∀ st H K, Wd c.K H σ K → REnv c.K H ρ st → XC c H σ K st E → ∀ R : It → Hp → Prop,
    (∀ ds σ1 Jt G Yh H1 K1, Gw H σ K H1 σ1 K1 → Wd c.K H1 σ1 K1 → Q ds σ1 → Walk Jt ds.length G Yh → (∀ H' σ' K', Same H1 H' → Wd c.K H' σ' K' → G K') →
      (∀ i v H' σ' Ka Kb, i < ds.length → Same H1 H' → Wd c.K H' σ' Ka → Yh i Ka v Kb → ∃ H2 d, ds[i]? = some d ∧ Gw H' σ' Ka H2 σ' Kb ∧ Wd c.K H2 σ' Kb ∧ Rep c.K H2 v d ∧ ∀ a o, Ka a = some o → Kb a = some o) → R Jt K1) → cPQ c.hp X tg iter st K R
structure TVI (c : Ct) (tg iter : Expr) (ρ : EnvT) (σ : Sg) (ds : List DT) : Prop where
  to : ∀ {Q : List DT → Sg → Prop} {E : TX}, Q ds σ → TI c tg iter ρ σ Q E
section
variable {c : Ct} {ρ : EnvT} {σ : Sg} {QA : List DT → Sg → Prop} {E : TX} {tg e a b : Expr} {pos p : Pos} {ds : List DT}
theorem ti_lst (h : TE c e ρ σ (fun d σ1 => ∃ ds, d = .lst ds ∧ QA ds σ1) E) : TI c tg e ρ σ QA E := ⟨fun X hX st H K w r xc R q => by
  have hX' := hX
  cases hX' with
  | mk _ k' Wx fl hpp hrH hcf hh hp' ht hf hN hU hst =>
  have go : ∀ R', iList X.K (cE X e) st K R' → cPQ hpp X tg e st K R' := fun R' z => by
    cases hpp with
    | none => exact cP_of (pi_list cE_pe) z
    | some p => exact z
  refine go _ ?_
  refine h.run X hX st H K w r xc _ fun v d σ1 H1 K1 s1 w1 r1 ⟨ds, e1, h1⟩ => ?_
  subst e1
  cases r1 with
  | lst hs ra =>
    rename_i a vs
    have hs := SqL.of (K := X.K) hs
    refine ⟨a, rfl, ⟨vs, same_sql w1.le hs⟩, q ds σ1 _ _ _ H1 K1 s1 w1 h1 (ra.length ▸ walk_list) (fun H' σ' K' s2 w2 => same_sql w2.le (same_sql s2 hs)) fun i v H' σ' Ka Kb hi s2 w2 y => ?_⟩
    obtain ⟨rfl, hv⟩ := y
    obtain ⟨d, e2, rd⟩ := ra.get' hv
    exact ⟨H', d, e2, Gw.refl, w2, rd.same s2, fun _ _ z => z⟩⟩
theorem ti_seq [Calm c] (h : TE c e ρ σ (fun d σ1 => ∃ ds, d = .seq ds ∧ QA ds σ1) E) : TI c tg e ρ σ QA E := ⟨fun X hX st H K w r xc R q => by
  have hX' := hX
  cases hX' with
  | mk _ k' Wx fl hpp hrH hcf hh hp' ht hf hN hU hst =>
  obtain rfl : hpp = none := ‹Calm _›.h
  refine cP_of (pi_list cE_pe) ?_
  refine h.run X hX st H K w r xc _ fun v d σ1 H1 K1 s1 w1 r1 ⟨ds, e1, h1⟩ => ?_
  subst e1
  cases r1 with
  | seq hs ra =>
    rename_i a vs
    refine ⟨a, rfl, ⟨vs, same_sql w1.le hs⟩, q ds σ1 _ _ _ H1 K1 s1 w1 h1 (ra.length ▸ walk_list) (fun H' σ' K' s2 w2 => same_sql w2.le (same_sql s2 hs)) fun i v H' σ' Ka Kb hi s2 w2 y => ?_⟩
    obtain ⟨rfl, hv⟩ := y
    obtain ⟨d, e2, rd⟩ := ra.get' hv
    exact ⟨H', d, e2, Gw.refl, w2, rd.same s2, fun _ _ z => z⟩⟩
theorem ti_tup [Calm c] (h : TE c e ρ σ (fun d σ1 => ∃ ds, d = .tup ds ∧ QA ds σ1) E) : TI c tg e ρ σ QA E := ⟨fun X hX st H K w r xc R q => by
  have hX' := hX
  cases hX' with
  | mk _ k' Wx fl hpp hrH hcf hh hp' ht hf hN hU hst =>
  obtain rfl : hpp = none := ‹Calm _›.h
  refine cP_of (pi_tup cE_pe) ?_
  refine h.run X hX st H K w r xc _ fun v d σ1 H1 K1 s1 w1 r1 ⟨ds, e1, h1⟩ => ?_
  subst e1
  cases r1 with
  | tup hs ra =>
    rename_i a vs
    refine ⟨a, rfl, ⟨vs, same_sqt w1.le hs⟩, q ds σ1 _ _ _ H1 K1 s1 w1 h1 (ra.length ▸ walk_tup) (fun H' σ' K' s2 w2 => same_sqt w2.le (same_sqt s2 hs)) fun i v H' σ' Ka Kb hi s2 w2 y => ?_⟩
    obtain ⟨rfl, hv⟩ := y
    obtain ⟨d, e2, rd⟩ := ra.get' hv
    exact ⟨H', d, e2, Gw.refl, w2, rd.same s2, fun _ _ z => z⟩⟩
theorem ti_str [Calm c] (h : TE c e ρ σ (fun d σ1 => ∃ l, d = .str l ∧ QA (l.map fun k => .str [k]) σ1) E) : TI c tg e ρ σ QA E := ⟨fun X hX st H K w r xc R q => by
  have hX' := hX
  cases hX' with
  | mk _ k' Wx fl hpp hrH hcf hh hp' ht hf hN hU hst =>
  obtain rfl : hpp = none := ‹Calm _›.h
  refine cP_of (pi_str cE_pe) ?_
  refine h.run X hX st H K w r xc _ fun v d σ1 H1 K1 s1 w1 r1 ⟨l, e1, h1⟩ => ?_
  subst e1
  cases r1
  have hl : (S l).cps.size = (l.map fun k => DT.str [k]).length := by simp [S]
  refine ⟨S l, rfl, q _ σ1 _ _ _ H1 K1 s1 w1 h1 (hl ▸ walk_str) (fun _ _ _ _ _ => trivial) fun i v H' σ' Ka Kb hi s2 w2 y => ?_⟩
  obtain ⟨rfl, k, hk, rfl⟩ := y
  have hk' : l[i]? = some k := by simpa [S] using hk
  exact ⟨H', .str [k], by rw [List.getElem?_map, hk']; rfl, Gw.refl, w2, .str [k], fun _ _ z => z⟩⟩
theorem ti_range1 [Calm c] (hg : GlS c "range") (hm : c.mg "range" = none) (h : TE c a ρ σ (fun d σ1 => ∃ n : Int, d = .int n ∧ (-(2 ^ 62) ≤ n ∧ n < 2 ^ 62) ∧ QA ((List.range n.toNat).map fun i : Nat => DT.int (i : Int)) σ1) E)
    (hs : ∀ env, starEach [a] env = [(false, eval a env)] := by intro _; rfl) : TI c tg (.Call (.Name "range" p) [a] [] pos) ρ σ QA E := ⟨fun X hX st H K w r xc R q => by
  have hX' := hX
  cases hX' with
  | mk _ k' Wx fl hpp hrH hcf hh hp' ht hf hN hU hst =>
  obtain rfl : hpp = none := ‹Calm _›.h
  refine cP_of (pi_range1 hg hm (pa_cons cE_pe pa_nil (hs _)) (hs _)) ?_
  refine h.run X hX st H K w r xc _ fun v d σ1 H1 K1 s1 w1 r1 ⟨n, e1, hn, h1⟩ => ?_
  subst e1
  cases r1
  have hl : n.toNat = ((List.range n.toNat).map fun i : Nat => DT.int (i : Int)).length := by simp
  refine ⟨n, rfl, hn.1, hn.2, q _ σ1 _ (fun _ => True) (YFn fun i => .int (0 + i)) H1 K1 s1 w1 h1 (by rw [← hl]; exact walk_range) (fun _ _ _ _ _ => trivial) fun i v H' σ' Ka Kb hi s2 w2 y => ?_⟩
  obtain ⟨rfl, rfl⟩ := y
  rw [← hl] at hi
  exact ⟨H', .int (i : Int), by simp [hi], Gw.refl, w2, (by show Rep X.K H' (V.int (0 + (i : Int))) (DT.int (i : Int)); rw [Int.zero_add]; exact .int _), fun _ _ z => z⟩⟩
theorem ti_range2 [Calm c] (hg : GlS c "range") (hm : c.mg "range" = none) (h : TE c a ρ σ (fun d σ1 => TE c b ρ σ1 (fun d2 σ2 => ∃ m n : Int, d = .int m ∧ d2 = .int n ∧ (-(2 ^ 62) ≤ m ∧ m < 2 ^ 62 ∧ -(2 ^ 62) ≤ n ∧ n < 2 ^ 62) ∧ QA ((List.range (n - m).toNat).map fun i : Nat => DT.int (m + (i : Int))) σ2) E) E)
    (hs : ∀ env, starEach [a, b] env = [(false, eval a env), (false, eval b env)] := by intro _; rfl) (hs2 : ∀ env, starEach [b] env = [(false, eval b env)] := by intro _; rfl) : TI c tg (.Call (.Name "range" p) [a, b] [] pos) ρ σ QA E := ⟨fun X hX st H K w r xc R q => by
  have hX' := hX
  cases hX' with
  | mk _ k' Wx fl hpp hrH hcf hh hp' ht hf hN hU hst =>
  obtain rfl : hpp = none := ‹Calm _›.h
  refine cP_of (pi_range2 hg hm (pa_cons cE_pe (pa_cons cE_pe pa_nil (hs2 _)) (by rw [hs, hs2])) (hs _) (hs2 _)) ?_
  refine h.run X hX st H K w r xc _ fun v d σ1 H1 K1 s1 w1 r1 h1 => ?_
  refine h1.run X hX st H1 K1 w1 (r.same s1.b) (xc.next s1) _ fun v2 d2 σ2 H2 K2 s2 w2 r2 ⟨m, n, e1, e2, hn, h2⟩ => ?_
  subst e1 e2
  cases r1
  cases r2
  have hl : (n - m).toNat = ((List.range (n - m).toNat).map fun i : Nat => DT.int (m + (i : Int))).length := by simp
  refine ⟨m, n, rfl, hn, q _ σ2 _ (fun _ => True) (YFn fun i => .int (m + i)) H2 K2 (s1.trans s2) w2 h2 (by rw [← hl]; exact walk_range) (fun _ _ _ _ _ => trivial) fun i v H' σ' Ka Kb hi s2 w2 y => ?_⟩
  obtain ⟨rfl, rfl⟩ := y
  rw [← hl] at hi
  exact ⟨H', .int (m + (i : Int)), by simp [hi], Gw.refl, w2, .int _, fun _ _ z => z⟩⟩
/-- a new pair -/
theorem pair_new {F : PySem.W.Frag} {H K : Hp} {σ : Sg} {T : Addr} {x y : V} {dx dy : DT} (w : Wd F H σ K) (h : K T = none) (rx : Rep F H x dx) (ry : Rep F H y dy) :
    ∃ H2, Gw H σ K H2 σ (upd K T (.tup [x, y])) ∧ Wd F H2 σ (upd K T (.tup [x, y])) ∧ Rep F H2 (.ref T) (.tup [dx, dy]) ∧ ∀ a o, K a = some o → (upd K T (.tup [x, y])) a = some o := by
  obtain ⟨s, w'⟩ := w.new (o := .tup [x, y]) h
  exact ⟨_, s, w', .tup (SqT.of upd_same) (.cons (rx.same s.b) (.cons (ry.same s.b) .nil)), fun a o e => by rw [upd_ne (ne_of_none e h)]; exact e⟩
theorem ti_enum [Calm c] {elts : List Expr} {kk : Nat} {tpos : Pos} (hg : GlS c "enumerate") (hm : c.mg "enumerate" = none) (h : TE c a ρ σ (fun d σ1 => ∃ ds, d = .lst ds ∧ QA (ds.zipIdx.map fun x => .tup [.int (x.2 : Int), x.1]) σ1) E)
    (hs : ∀ env, starEach [a] env = [(false, eval a env)] := by intro _; rfl) : TI c (.Tuple elts kk tpos) (.Call (.Name "enumerate" p) [a] [] pos) ρ σ QA E := ⟨fun X hX st H K w r xc R q => by
  have hX' := hX
  cases hX' with
  | mk _ k' Wx fl hpp hrH hcf hh hp' ht hf hN hU hst =>
  obtain rfl : hpp = none := ‹Calm _›.h
  refine cP_of (pi_enum hg hm (pa_cons cE_pe pa_nil (hs _)) (hs _)) ?_
  refine h.run X hX st H K w r xc _ fun v d σ1 H1 K1 s1 w1 r1 ⟨ds, e1, h1⟩ => ?_
  subst e1
  cases r1 with
  | lst hsq ra =>
    rename_i a vs
    have hsq := SqL.of (K := X.K) hsq
    have hl : vs.length = (ds.zipIdx.map fun x => DT.tup [.int (x.2 : Int), x.1]).length := by simp [ra.length]
    refine ⟨a, vs, rfl, same_sql w1.le hsq, q _ σ1 _ _ _ H1 K1 s1 w1 h1 (hl ▸ walk_enum) (fun H' σ' K' s2 w2 => same_sql w2.le (same_sql s2 hsq)) fun i v H' σ' Ka Kb hi s2 w2 y => ?_⟩
    obtain ⟨T, x, y, rfl, h2, rfl, h3, h4⟩ := y
    cases h3
    obtain ⟨d, e2, rd⟩ := ra.get' h4
    obtain ⟨H2, s3, w3, r3, k3⟩ := pair_new w2 h2 (.int (i : Int)) (rd.same s2)
    exact ⟨H2, _, by rw [List.getElem?_map, List.getElem?_zipIdx, e2]; simp, s3, w3, r3, k3⟩⟩
theorem ti_zip [Calm c] {elts : List Expr} {kk : Nat} {tpos : Pos} (hg : GlS c "zip") (hm : c.mg "zip" = none) (h : TE c a ρ σ (fun d σ1 => TE c b ρ σ1 (fun d2 σ2 => ∃ ds es, d = .lst ds ∧ d2 = .lst es ∧ QA ((ds.zip es).map fun x => .tup [x.1, x.2]) σ2) E) E)
    (hs : ∀ env, starEach [a, b] env = [(false, eval a env), (false, eval b env)] := by intro _; rfl) (hs2 : ∀ env, starEach [b] env = [(false, eval b env)] := by intro _; rfl) : TI c (.Tuple elts kk tpos) (.Call (.Name "zip" p) [a, b] [] pos) ρ σ QA E := ⟨fun X hX st H K w r xc R q => by
  have hX' := hX
  cases hX' with
  | mk _ k' Wx fl hpp hrH hcf hh hp' ht hf hN hU hst =>
  obtain rfl : hpp = none := ‹Calm _›.h
  refine cP_of (pi_zip hg hm (pa_cons cE_pe (pa_cons cE_pe pa_nil (hs2 _)) (by rw [hs, hs2])) (by rw [hs, hs2]) (by rw [hs2]; rfl)) ?_
  refine h.run X hX st H K w r xc _ fun v d σ1 H1 K1 s1 w1 r1 h1 => ?_
  refine h1.run X hX st H1 K1 w1 (r.same s1.b) (xc.next s1) _ fun v2 d2 σ2 H2 K2 s2 w2 r2 ⟨ds, es, e1, e2, h2⟩ => ?_
  subst e1 e2
  cases r1 with
  | lst hsq ra =>
    rename_i a1 vs
    cases r2 with
    | lst hsq2 ra2 =>
      rename_i a2 us
      have hsq := SqL.of (K := X.K) hsq
      have hsq2 := SqL.of (K := X.K) hsq2
      have hl : min vs.length us.length = ((ds.zip es).map fun x => DT.tup [x.1, x.2]).length := by simp [ra.length, ra2.length]
      refine ⟨a1, a2, vs, us, rfl, same_sql w2.le (same_sql s2.b hsq), same_sql w2.le hsq2, q _ σ2 _ _ _ H2 K2 (s1.trans s2) w2 h2 (walk_zip hl.symm) (fun H' σ' K' s3 w3 => ⟨same_sql w3.le (same_sql (s2.b.trans s3) hsq), same_sql w3.le (same_sql s3 hsq2)⟩) fun i v H' σ' Ka Kb hi s3 w3 y => ?_⟩
      obtain ⟨T, x, y, rfl, h3, rfl, h4, h5⟩ := y
      obtain ⟨d, e2, rd⟩ := ra.get' h4
      obtain ⟨d2, e3, rd2⟩ := ra2.get' h5
      obtain ⟨H3, s4, w4, r4, k4⟩ := pair_new w3 h3 (rd.same (s2.b.trans s3)) (rd2.same s3)
      exact ⟨H3, _, by rw [List.getElem?_map, (List.getElem?_zip_eq_some (z := (d, d2))).mpr ⟨e2, e3⟩]; exact rfl, s4, w4, r4, k4⟩⟩
theorem RepK.get' {F : PySem.W.Frag} {H : Hp} : ∀ {v : List (Key × V)} {d : List (DK × DT)} {i : Nat} {k : Key} {u : V}, RepK F H v d → v[i]? = some (k, u) → ∃ k' x, d[i]? = some (k', x) ∧ k = keyD k' ∧ Rep F H u x
  | _, _, _, _, _, .nil, e => by simp at e
  | _, _, 0, _, _, .cons r _, e => by simp at e; obtain ⟨rfl, rfl⟩ := e; exact ⟨_, _, rfl, rfl, r⟩
  | _, _, i + 1, _, _, .cons _ t, e => by
    obtain ⟨k', x, h1, h2⟩ := RepK.get' t (by simpa using e)
    exact ⟨k', x, by simpa using h1, h2⟩
/-- a dict, key by key -/
theorem ti_keys [Calm c] (h : TE c e ρ σ (fun d σ1 => ∃ kvs, d = .dct kvs ∧ QA (kvs.map fun x => dk x.1) σ1) E) : TI c tg e ρ σ QA E := ⟨fun X hX st H K w r xc R q => by
  have hX' := hX
  cases hX' with
  | mk _ k' Wx fl hpp hrH hcf hh hp' ht hf hN hU hst =>
  obtain rfl : hpp = none := ‹Calm _›.h
  refine cP_of (pi_keys cE_pe) ?_
  refine h.run X hX st H K w r xc _ fun v d σ1 H1 K1 s1 w1 r1 ⟨ds, e1, h1⟩ => ?_
  subst e1
  cases r1 with
  | dct hd ra =>
    rename_i a ob vs
    have hl : vs.length = (ds.map fun x => dk x.1).length := by simp [ra.length]
    refine ⟨a, ob, rfl, .inl ⟨vs, w1.le _ _ hd, q _ σ1 _ _ _ H1 K1 s1 w1 h1 (hl ▸ walk_keys) (fun H' σ' K' s2 w2 => w2.le _ _ (s2 _ _ hd)) fun i v H' σ' Ka Kb hi s2 w2 y => ?_⟩⟩
    obtain ⟨rfl, k, u, hv, rfl⟩ := y
    obtain ⟨k', x, e2, rfl, rd⟩ := RepK.get' ra hv
    exact ⟨H', dk k', by rw [List.getElem?_map, e2]; rfl, Gw.refl, w2, rep_dk k', fun _ _ z => z⟩⟩
theorem ti_items [Calm c] {elts : List Expr} {kk : Nat} {tpos apos : Pos} (h : TE c e ρ σ (fun d σ1 => ∃ kvs, d = .dct kvs ∧ QA (kvs.map fun x => .tup [dk x.1, x.2]) σ1) E)
    (hbase : ∀ env, attributeBase e "items" env (eval e env) = eval e env := by intro _; rfl) (hline : (apos.endLine == pos.line) = true := by rfl) : TI c (.Tuple elts kk tpos) (.Call (.Attribute e "items" apos) [] [] pos) ρ σ QA E := ⟨fun X hX st H K w r xc R q => by
  have hX' := hX
  cases hX' with
  | mk _ k' Wx fl hpp hrH hcf hh hp' ht hf hN hU hst =>
  obtain rfl : hpp = none := ‹Calm _›.h
  refine cP_of (pi_items cE_pe (hbase _) hline) ?_
  refine h.run X hX st H K w r xc _ fun v d σ1 H1 K1 s1 w1 r1 ⟨ds, e1, h1⟩ => ?_
  subst e1
  cases r1 with
  | dct hd ra =>
    rename_i a ob vs
    have hl : vs.length = (ds.map fun x => DT.tup [dk x.1, x.2]).length := by simp [ra.length]
    refine ⟨a, ob, vs, rfl, w1.le _ _ hd, q _ σ1 _ _ _ H1 K1 s1 w1 h1 (hl ▸ walk_items) (fun H' σ' K' s2 w2 => w2.le _ _ (s2 _ _ hd)) fun i v H' σ' Ka Kb hi s2 w2 y => ?_⟩
    obtain ⟨T, x, y, rfl, h2, rfl, h3, h4⟩ := y
    obtain ⟨⟨k, u⟩, e2, e3⟩ := Option.map_eq_some_iff.mp h3
    have h4 : vs[i]?.map Prod.snd = some y := h4
    rw [e2] at h4
    cases e3
    cases h4
    obtain ⟨k', x, e4, rfl, rd⟩ := RepK.get' ra e2
    obtain ⟨H2, s3, w3, r3, k3⟩ := pair_new w2 h2 (rep_dk k') (rd.same s2)
    exact ⟨H2, _, by rw [List.getElem?_map, e4]; rfl, s3, w3, r3, k3⟩⟩
theorem tvi_lst (h : TV c e ρ σ (.lst ds)) : TVI c tg e ρ σ ds := ⟨fun q => ti_lst (h.to ⟨ds, rfl, q⟩)⟩
theorem tvi_seq [Calm c] (h : TV c e ρ σ (.seq ds)) : TVI c tg e ρ σ ds := ⟨fun q => ti_seq (h.to ⟨ds, rfl, q⟩)⟩
theorem tvi_tup [Calm c] (h : TV c e ρ σ (.tup ds)) : TVI c tg e ρ σ ds := ⟨fun q => ti_tup (h.to ⟨ds, rfl, q⟩)⟩
theorem tvi_str [Calm c] {l : List Nat} (h : TV c e ρ σ (.str l)) : TVI c tg e ρ σ (l.map fun k => .str [k]) := ⟨fun q => ti_str (h.to ⟨l, rfl, q⟩)⟩
theorem tvi_keys [Calm c] {kvs : List (DK × DT)} (h : TV c e ρ σ (.dct kvs)) : TVI c tg e ρ σ (kvs.map fun x => dk x.1) := ⟨fun q => ti_keys (h.to ⟨kvs, rfl, q⟩)⟩
end
end Y

/-! Y3: targets, comprehensions. -/
namespace Y
open PySem PySem.Spec L2 SX Z
open PyProof.Rows (subscriptTail)
/-! ### targets: one name, several names -/
inductive TgS where | nm (j : Nat) | tp (js : List Nat)
def TgS.slots : TgS → List Nat
  | .nm j => [j]
  | .tp js => js
def TgOk (c : Ct) (tg : Expr) : TgS → Prop
  | .nm j => IsN c tg j
  | .tp js => ∃ es k pos, tg = .Tuple es k pos ∧ IsNs c es js
def gOf (F : PySem.W.Frag) : TgS → TG
  | .nm j => gName j
  | .tp js => gTup F js.length (gNs js)
theorem tg_pg {c : Ct} {tg : Expr} {t : TgS} (h : TgOk c tg t) {X : Cx} (hX : Con c X) : PG X tg (gOf c.K t) := by
  cases t with
  | nm j => exact isN_pg h hX
  | tp js =>
    obtain ⟨es, k, pos, rfl, h⟩ := h
    obtain ⟨q1, q2, q3⟩ := pgs_names hX h
    cases hX with
    | mk _ k' Wx fa hpp hrH hcf hh hp' ht hf hN hU hst => exact pg_tupQ (fun e => (hcf e).1) hh q1 q2 q3
def setT (ρ : EnvT) : List Nat → List DT → EnvT
  | j :: js, x :: xs => setT (ρ.set j (some x)) js xs
  | _, _ => ρ
def stT : TgS → DT → EnvT → Option EnvT
  | .nm j, d, ρ => some (ρ.set j (some d))
  | .tp js, .tup ds, ρ => if ds.length = js.length then some (setT ρ js ds) else none
  | _, _, _ => none
theorem REnv.setAll {F : PySem.W.Frag} {H : Hp} : ∀ {js : List Nat} {vs : List V} {ds : List DT} {ρ : EnvT} {st : L2.St}, REnv F H ρ st → RepA F H vs ds → REnv F H (setT ρ js ds) (Z.setAll st js vs)
  | [], _, _, _, _, r, _ => by unfold setT Z.setAll; exact r
  | _ :: _, _, _, _, _, r, .nil => by unfold setT Z.setAll; exact r
  | j :: js, _, _, _, _, r, .cons h t => REnv.setAll (js := js) (r.set h j) t
theorem g_of {F : PySem.W.Frag} {H K : Hp} {σ : Sg} {t : TgS} {v : V} {d : DT} {ρ ρ' : EnvT} {st : L2.St} {Q : L2.St → Hp → Prop} (w : Wd F H σ K) (rv : Rep F H v d) (r : REnv F H ρ st) (h : stT t d ρ = some ρ') (q : ∀ st', REnv F H ρ' st' → (∀ vs, (∀ j ∈ t.slots, j ∈ vs) → L2.wipe st' vs = L2.wipe st vs) → Q st' K) : gOf F t v st K Q := by
  have wset : ∀ (vs : List Nat) (st : L2.St) (j : Nat) (x : Option V), j ∈ vs → L2.wipe (st.set j x) vs = L2.wipe st vs := by
    intro vs
    induction vs with
    | nil => intro _ _ _ h; cases h
    | cons a r ih =>
      intro st j x hj
      show (L2.wipe (st.set j x) r).set a none = (L2.wipe st r).set a none
      by_cases hr : j ∈ r
      · rw [ih st j x hr]
      · have e : j = a := (List.mem_cons.mp hj).resolve_right hr
        subst e
        have : ∀ (r : List Nat), j ∉ r → L2.wipe (st.set j x) r = (L2.wipe st r).set j x := by
          intro r
          induction r with
          | nil => intro _; rfl
          | cons b r ih2 =>
            intro hb
            show (L2.wipe (st.set j x) r).set b none = ((L2.wipe st r).set b none).set j x
            rw [ih2 (fun z => hb (List.mem_cons_of_mem _ z)), List.set_comm _ _ (fun z : j = b => hb (z ▸ List.mem_cons_self))]
        rw [this r hr, List.set_set]
  cases t with
  | nm j =>
    cases h
    exact q _ (r.set rv j) fun vs hs => wset vs st j _ (hs j List.mem_cons_self)
  | tp js =>
    cases rv with
    | tup hs ra =>
      rename_i a vs ds
      have h : (if ds.length = js.length then some (setT ρ js ds) else none) = some ρ' := h
      by_cases hl : ds.length = js.length
      · rw [if_pos hl] at h
        cases h
        have hl2 : vs.length = js.length := ra.length.trans hl
        refine ⟨a, vs, rfl, same_sqt w.le hs, hl2, gNs_of js vs st hl2 (q _ (r.setAll ra) ?_)⟩
        intro ws hsub
        have : ∀ (js : List Nat) (vs : List V) (st : L2.St), (∀ j ∈ js, j ∈ ws) → L2.wipe (Z.setAll st js vs) ws = L2.wipe st ws := by
          intro js
          induction js with
          | nil => intro vs st _; unfold Z.setAll; rfl
          | cons j js ih =>
            intro vs st h
            cases vs with
            | nil => unfold Z.setAll; rfl
            | cons x xs =>
              show L2.wipe (Z.setAll (st.set j (some x)) js xs) ws = _
              rw [ih xs _ (fun k hk => h k (List.mem_cons_of_mem _ hk)), wset ws st j _ (h j List.mem_cons_self)]
        exact this js vs st hsub
      · rw [if_neg hl] at h
        cases h
    | _ => cases h
theorem wipe_wipe : ∀ (vs : List Nat) (st : L2.St), L2.wipe (L2.wipe st vs) vs = L2.wipe st vs := by
  have wset : ∀ (vs : List Nat) (st : L2.St) (j : Nat), j ∉ vs → L2.wipe (st.set j none) vs = (L2.wipe st vs).set j none := by
    intro vs
    induction vs with
    | nil => intro _ _ _; rfl
    | cons b r ih2 =>
      intro st j hb
      show (L2.wipe (st.set j none) r).set b none = ((L2.wipe st r).set b none).set j none
      rw [ih2 st j (fun z => hb (List.mem_cons_of_mem _ z)), List.set_comm _ _ (fun z : j = b => hb (z ▸ List.mem_cons_self))]
  have wset2 : ∀ (vs : List Nat) (st : L2.St) (j : Nat), j ∈ vs → L2.wipe (st.set j none) vs = L2.wipe st vs := by
    intro vs
    induction vs with
    | nil => intro _ _ h; cases h
    | cons a r ih =>
      intro st j hj
      show (L2.wipe (st.set j none) r).set a none = (L2.wipe st r).set a none
      by_cases hr : j ∈ r
      · rw [ih st j hr]
      · have e : j = a := (List.mem_cons.mp hj).resolve_right hr
        subst e
        rw [wset r st j hr, List.set_set]
  intro vs
  induction vs with
  | nil => intro st; rfl
  | cons a r ih =>
    intro st
    show (L2.wipe ((L2.wipe st r).set a none) r).set a none = (L2.wipe st r).set a none
    by_cases hr : a ∈ r
    · rw [wset2 r _ a hr, ih]
    · rw [wset r _ a hr, ih, List.set_set]

/-! ### dict entries -/
def putT (kvs : List (DK × DT)) (k : DK) (d : DT) : List (DK × DT) := if (kvs.any fun e => decide (e.1 = k)) = true then kvs.map (fun e => if e.1 = k then (e.1, d) else e) else kvs ++ [(k, d)]
theorem keyD_eq {a b : DK} : keyD a = keyD b ↔ a = b := ⟨keyD_inj, fun e => by rw [e]⟩
theorem RepK.put {F : PySem.W.Frag} {H : Hp} {vs : List (Key × V)} {ds : List (DK × DT)} (r : RepK F H vs ds) (k : DK) {v : V} {d : DT} (h : Rep F H v d) : RepK F H (putK vs (keyD k) v) (putT ds k d) := by
  have a1 : ∀ {vs : List (Key × V)} {ds : List (DK × DT)}, RepK F H vs ds → (vs.any fun e => decide (e.1 = keyD k)) = (ds.any fun e => decide (e.1 = k)) := by
    intro vs ds r
    induction ds generalizing vs with
    | nil => cases r; rfl
    | cons x xs ih =>
      cases r with
      | cons h t =>
        simp only [List.any_cons, ih t]
        congr 1
        exact decide_eq_decide.mpr keyD_eq
  have a2 : ∀ {vs : List (Key × V)} {ds : List (DK × DT)}, RepK F H vs ds → RepK F H (vs.map fun e => if e.1 = keyD k then (e.1, v) else e) (ds.map fun e => if e.1 = k then (e.1, d) else e) := by
    intro vs ds r
    induction ds generalizing vs with
    | nil => cases r; exact .nil
    | cons x xs ih =>
      cases r with
      | cons hx t =>
        rename_i k2 v2 vs2 d2
        show RepK F H ((if keyD k2 = keyD k then (keyD k2, v) else (keyD k2, v2)) :: _) ((if k2 = k then (k2, d) else (k2, d2)) :: _)
        by_cases e : k2 = k
        · rw [if_pos e, if_pos (congrArg keyD e)]
          exact .cons h (ih t)
        · rw [if_neg e, if_neg (fun z => e (keyD_inj z))]
          exact .cons hx (ih t)
  have a3 : ∀ {vs : List (Key × V)} {ds : List (DK × DT)}, RepK F H vs ds → RepK F H (vs ++ [(keyD k, v)]) (ds ++ [(k, d)]) := by
    intro vs ds r
    induction ds generalizing vs with
    | nil => cases r; exact .cons h .nil
    | cons x xs ih =>
      cases r with
      | cons hx t => exact .cons hx (ih t)
  unfold putK putT
  rw [a1 r]
  split
  · exact a2 r
  · exact a3 r
theorem putT_len (c : List (DK × DT)) (k : DK) (x : DT) : (putT c k x).length ≤ c.length + 1 := by
  unfold putT
  split
  · rw [List.length_map]; omega
  · rw [List.length_append, List.length_singleton]; omega
theorem Gw.touch {H H' K K' : Hp} {σ σ' : Sg} {D : Addr} {o : HO} (g : Gw H σ K H' σ' K') (h : K D = none) : Gw H σ K H' σ' (upd K' D o) := ⟨g.b, fun a u h1 h2 => by rw [upd_ne (ne_of_none h2 h)]; exact g.k a u h1 h2, g.n, g.f⟩
theorem Wd.touch {F : PySem.W.Frag} {H K : Hp} {σ : Sg} {D : Addr} {o u : HO} (w : Wd F H σ K) (hH : H D = none) (hs : σ D = none) (e : K D = some u) (hu : ∀ a, u ≠ .own a) : Wd F H σ (upd K D o) := by
  refine ⟨fun a v h => by rw [upd_ne (ne_of_none h hH)]; exact w.le a v h, w.off, fun q c h => (w.on q c h).stay (Same.refl H) fun a v h2 e2 => ?_⟩
  have ne : a ≠ D := fun z => by
    rcases h2 with h2 | h2
    · rw [← h2, z, hs] at h; cases h
    · subst h2
      rw [z, e] at e2
      exact hu _ (Option.some.inj e2)
  rw [upd_ne ne]
  exact e2
theorem Gw.add {H H' K K' : Hp} {σ σ' : Sg} {D : Addr} {c : Cell} (g : Gw H σ K H' σ' K') (h : K D = none) : Gw H σ K H' (su σ' D c) K' := ⟨g.b, g.k, fun a h1 h2 => by
  by_cases z : a = D
  · rw [z]; exact h
  · rw [su_ne z] at h2; exact g.n a h1 h2, g.f⟩
/-- an object of no one's stays, and stays no one's -/
theorem Gw.hid {H H2 K K2 : Hp} {σ σ2 : Sg} {D : Addr} {o : HO} (g : Gw H σ K H2 σ2 K2) (e : K D = some o) (no : ∀ a, o ≠ .own a) (n : σ D = none) (hn : H D = none) : K2 D = some o ∧ σ2 D = none ∧ H2 D = none := by
  refine ⟨g.k D _ n e, ?_, ?_⟩
  · cases q : σ2 D with
    | none => rfl
    | some c =>
      have := g.n D n (by rw [q]; exact Option.some_ne_none _)
      rw [e] at this
      cases this
  · cases q : H2 D with
    | none => rfl
    | some u =>
      rcases g.f D hn (by rw [q]; exact Option.some_ne_none _) n with z | ⟨p, z⟩
      · rw [e] at z; cases z
      · rw [e] at z; exact absurd (Option.some.inj z) (no p)
/-! ### comprehensions -/
/-- a turn: the test, the element -/
def LcT (c : Ct) (ifs : List Expr) (elt : Expr) (ρ : EnvT) (σ : Sg) (yes : DT → Sg → Prop) (no : Sg → Prop) : Prop :=
  match ifs with
  | [] => TE c elt ρ σ yes TX0
  | [a] => TT c a ρ σ (fun b σ1 => (b = true → TE c elt ρ σ1 yes TX0) ∧ (b = false → no σ1)) TX0
  | _ => False
def DcT (c : Ct) (ifs : List Expr) (kx vx : Expr) (ρ : EnvT) (σ : Sg) (yes : DK → DT → Sg → Prop) (no : Sg → Prop) : Prop :=
  match ifs with
  | [] => TE c kx ρ σ (fun y σ1 => ∃ k, y = dk k ∧ TE c vx ρ σ1 (yes k) TX0) TX0
  | [a] => TT c a ρ σ (fun b σ1 => (b = true → TE c kx ρ σ1 (fun y σ1 => ∃ k, y = dk k ∧ TE c vx ρ σ1 (yes k) TX0) TX0) ∧ (b = false → no σ1)) TX0
  | _ => False
section
variable {c : Ct} {ρ : EnvT} {σ : Sg} {Q : DT → Sg → Prop} {E : TX} {tg iter elt kx vx : Expr} {ifs : List Expr} {scope : Scope} {pos : Pos} {own : List (Str × Nat)} {t : TgS}
theorem xblk {H K : Hp} {σ : Sg} {st : L2.St} : XC (c.blk scope) H σ K st TX0 := fun _ _ _ _ _ _ _ _ _ z => z.elim
/-- the reading of a list comprehension: the new list is a cell -/
theorem lc_runT {X : Cx} (hX : Con c X) {st : L2.St} {H K : Hp} (w : Wd c.K H σ K) (r : REnv c.K H ρ st) (xc : XC c H σ K st E) {Q' : VK} (fo : Fo c (Rep c.K) H σ K Q Q') (hsub : ∀ j ∈ t.slots, j ∈ own.map (·.2))
    (hi : TI c tg iter ρ σ (fun ds σ1 => ds.length ≤ 1000000 ∧ ∃ I : Nat → List DT → Sg → Prop, I 0 [] σ1 ∧
      (∀ i d acc σ2, ds[i]? = some d → I i acc σ2 → ∃ ρ', stT t d (wipeT ρ (own.map (·.2))) = some ρ' ∧ LcT (c.blk scope) ifs elt ρ' σ2 (fun y σ3 => I (i + 1) (acc ++ [y]) σ3) (I (i + 1) acc)) ∧
      (∀ D acc σ2, σ2 D = none → acc.length ≤ ds.length → I ds.length acc σ2 → Q (.ref D) (su σ2 D (.lst acc)))) E) : tLc (cPQ c.hp X tg iter) (gOf c.K t) (bTQ X c.hp scope ifs) (bEQ X c.hp scope elt) (own.map (·.2)) st K Q' := by
  have hX' := hX
  have hline : 1000000 < sizeLine := by rw [sizeLine_eq]; decide
  cases hX' with
  | mk _ k' Wx fa hpp hrH hcf hh hp' ht hf hN hU hst =>
    refine hi.run X hX st H K w r xc _ fun ds σ1 Jt G Yh H1 K1 g1 w1 ⟨hn, I, h0, hs, hq⟩ wk hG hy => ?_
    intro D hD
    refine lc_it wk (fun i K' => ∃ H' σ' acc vs, Gw H1 σ1 K1 H' σ' K' ∧ Wd X.K H' σ' K' ∧ K' D = some (.lst vs) ∧ σ' D = none ∧ H' D = none ∧ RepA X.K H' vs acc ∧ acc.length ≤ i ∧ I i acc σ') ⟨H1, σ1, [], [], Gw.push hD, w1.push hD, upd_same, w1.free hD, none_of w1.le hD, .nil, Nat.le_refl _, h0⟩ ?_ ?_ ?_
    · rintro i K' hi' ⟨H', σ', acc, vs, g, w', e, _, _, _, _, _⟩
      exact hG H' σ' K' g.b w'
    · rintro i x Ka Kb hi' ⟨H', σ', acc, vs, g, w', e, nD, nH, ra, hl, hI⟩ yy
      obtain ⟨H2, d, hd, g2, w2, rd, _⟩ := hy i x H' σ' Ka Kb hi' g.b w' yy
      obtain ⟨ρ', hst, turn⟩ := hs i d acc σ' hd hI
      obtain ⟨e2, nD2, nH2⟩ := g2.hid e (fun _ z => nomatch z) nD nH
      have r2 : REnv X.K H2 (wipeT ρ (own.map (·.2))) (L2.wipe st (own.map (·.2))) := (r.same (g1.b.trans (g.b.trans g2.b))).wipe _
      refine g_of w2 rd r2 hst fun st' rst hw => ⟨(hw _ hsub).trans (wipe_wipe _ _), ?_⟩
      have fin : ∀ {H3 K3 : Hp} {σ3 : Sg} {v : V} {y : DT}, Gw H2 σ' Kb H3 σ3 K3 → Wd X.K H3 σ3 K3 → Rep X.K H3 v y → I (i + 1) (acc ++ [y]) σ3 → ∃ acc', K3 D = some (.lst acc') ∧ acc'.length < sizeLine ∧
          ∃ H' σ' acc vs, Gw H1 σ1 K1 H' σ' (upd K3 D (.lst (acc' ++ [v]))) ∧ Wd X.K H' σ' (upd K3 D (.lst (acc' ++ [v]))) ∧ (upd K3 D (.lst (acc' ++ [v]))) D = some (.lst vs) ∧ σ' D = none ∧ H' D = none ∧ RepA X.K H' vs acc ∧ acc.length ≤ i + 1 ∧ I (i + 1) acc σ' := fun {H3 K3 σ3 v y} g3 w3 rv hI3 => by
        obtain ⟨e3, nD3, nH3⟩ := g3.hid e2 (fun _ z => nomatch z) nD2 nH2
        exact ⟨vs, e3, by rw [ra.length]; omega, H3, σ3, acc ++ [y], vs ++ [v], (g.trans (g2.trans g3)).touch hD, w3.touch nH3 nD3 e3 (fun _ z => nomatch z), upd_same, nD3, nH3, (ra.same (g2.b.trans g3.b)).append (.cons rv .nil), by rw [List.length_append, List.length_singleton]; omega, hI3⟩
      match ifs, turn with
      | [], turn =>
        intro s0 H0 C cl fp
        refine cTs_of pts_nil ?_
        unfold tYes
        refine iteT ?_
        intro s0 H0 C cl fp
        exact TE.run turn _ (con_blk hrH hcf hh hN hU s0 H0 C cl fp) st' H2 _ w2 rst xblk _ fun v y σ3 H3 K3 g3 w3 rv hI3 => fin g3 w3 rv hI3
      | [a], turn =>
        intro s0 H0 C cl fp
        refine cTs_of (pts_one cT_pt) ?_
        refine Y.TT.run turn _ (con_blk hrH hcf hh hN hU s0 H0 C cl fp) st' H2 _ w2 rst xblk _ fun b b' σ3 H3 K3 g3 w3 rb ⟨h1, h2⟩ => ?_
        subst rb
        cases b with
        | true =>
          refine iteT ?_
          intro s0 H0 C cl fp
          exact (h1 rfl).run _ (con_blk hrH hcf hh hN hU s0 H0 C cl fp) st' H3 _ w3 (rst.same g3.b) xblk _ fun v y σ4 H4 K4 g4 w4 rv hI4 => fin (g3.trans g4) w4 rv hI4
        | false =>
          obtain ⟨e3, nD3, nH3⟩ := g3.hid e2 (fun _ z => nomatch z) nD2 nH2
          exact iteF ⟨H3, σ3, acc, vs, g.trans (g2.trans g3), w3, e3, nD3, nH3, ra.same (g2.b.trans g3.b), by omega, h2 rfl⟩
      | _ :: _ :: _, turn => exact turn.elim
    · rintro K' ⟨H', σ', acc, vs, g, w', e, nD, nH, ra, hl, hI⟩
      exact fo _ _ _ H' K' (g1.trans (g.add hD)) (w'.add (c := .lst acc) nH ⟨vs, e, ra⟩) (.ref D) (hq D acc σ' nD hl hI)
/-- .. of a dict comprehension -/
theorem dc_runT [Calm c] {X : Cx} (hX : Con c X) {st : L2.St} {H K : Hp} (w : Wd c.K H σ K) (r : REnv c.K H ρ st) (xc : XC c H σ K st E) {Q' : VK} (fo : Fo c (Rep c.K) H σ K Q Q') (hsub : ∀ j ∈ t.slots, j ∈ own.map (·.2))
    (hi : TI c tg iter ρ σ (fun ds σ1 => ds.length ≤ 1000000 ∧ ∃ I : Nat → List (DK × DT) → Sg → Prop, I 0 [] σ1 ∧
      (∀ i d acc σ2, ds[i]? = some d → I i acc σ2 → ∃ ρ', stT t d (wipeT ρ (own.map (·.2))) = some ρ' ∧ DcT (c.blk scope) ifs kx vx ρ' σ2 (fun k y σ3 => I (i + 1) (putT acc k y) σ3) (I (i + 1) acc)) ∧
      (∀ D acc σ2, σ2 D = none → acc.length ≤ ds.length → I ds.length acc σ2 → Q (.ref D) (su σ2 D (.dct acc)))) E) : tDc (cPQ c.hp X tg iter) (gOf c.K t) (bTQ X c.hp scope ifs) (bEQ X c.hp scope kx) (bEQ X c.hp scope vx) (own.map (·.2)) st K Q' := by
  have hX' := hX
  have hline : 1000000 < sizeLine := by rw [sizeLine_eq]; decide
  cases hX' with
  | mk _ k' Wx fa hpp hrH hcf hh hp' ht hf hN hU hst =>
    obtain rfl : hpp = none := ‹Calm _›.h
    obtain ⟨hc, hr⟩ := hcf rfl
    refine hi.run X hX st H K w r xc _ fun ds σ1 Jt G Yh H1 K1 g1 w1 ⟨hn, I, h0, hs, hq⟩ wk hG hy => ?_
    intro D hD
    refine dc_it wk (fun i K' => ∃ H' σ' acc vs, Gw H1 σ1 K1 H' σ' K' ∧ Wd X.K H' σ' K' ∧ K' D = some (.dK vs) ∧ σ' D = none ∧ H' D = none ∧ RepK X.K H' vs acc ∧ acc.length ≤ i ∧ I i acc σ') ⟨H1, σ1, [], [], Gw.push hD, w1.push hD, upd_same, w1.free hD, none_of w1.le hD, .nil, Nat.le_refl _, h0⟩ ?_ ?_ ?_
    · rintro i K' hi' ⟨H', σ', acc, vs, g, w', e, _, _, _, _, _⟩
      exact hG H' σ' K' g.b w'
    · rintro i x Ka Kb hi' ⟨H', σ', acc, vs, g, w', e, nD, nH, ra, hl, hI⟩ yy
      obtain ⟨H2, d, hd, g2, w2, rd, _⟩ := hy i x H' σ' Ka Kb hi' g.b w' yy
      obtain ⟨ρ', hst, turn⟩ := hs i d acc σ' hd hI
      obtain ⟨e2, nD2, nH2⟩ := g2.hid e (fun _ z => nomatch z) nD nH
      have r2 : REnv X.K H2 (wipeT ρ (own.map (·.2))) (L2.wipe st (own.map (·.2))) := (r.same (g1.b.trans (g.b.trans g2.b))).wipe _
      refine g_of w2 rd r2 hst fun st' rst hw => ⟨(hw _ hsub).trans (wipe_wipe _ _), ?_⟩
      have fin : ∀ {H3 K3 : Hp} {σ3 : Sg} {k : DK} {v : V} {y : DT}, Gw H2 σ' Kb H3 σ3 K3 → Wd X.K H3 σ3 K3 → Rep X.K H3 v y → I (i + 1) (putT acc k y) σ3 → ∃ kvs k1, kV (keyD k) = kV k1 ∧ K3 D = some (.dK kvs) ∧ kvs.length < sizeLine ∧
          ∃ H' σ' acc vs, Gw H1 σ1 K1 H' σ' (upd K3 D (.dK (putK kvs k1 v))) ∧ Wd X.K H' σ' (upd K3 D (.dK (putK kvs k1 v))) ∧ (upd K3 D (.dK (putK kvs k1 v))) D = some (.dK vs) ∧ σ' D = none ∧ H' D = none ∧ RepK X.K H' vs acc ∧ acc.length ≤ i + 1 ∧ I (i + 1) acc σ' := fun {H3 K3 σ3 k v y} g3 w3 rv hI3 => by
        obtain ⟨e3, nD3, nH3⟩ := g3.hid e2 (fun _ z => nomatch z) nD2 nH2
        exact ⟨vs, keyD k, rfl, e3, by rw [ra.length]; omega, H3, σ3, putT acc k y, putK vs (keyD k) v, (g.trans (g2.trans g3)).touch hD, w3.touch nH3 nD3 e3 (fun _ z => nomatch z), upd_same, nD3, nH3, (ra.same (g2.b.trans g3.b)).put k rv, by have := putT_len acc k y; omega, hI3⟩
      match ifs, turn with
      | [], turn =>
        intro s0 H0 C cl fp
        refine cTs_of pts_nil ?_
        unfold tYes
        refine iteT ?_
        intro s0 H0 C cl fp
        refine TE.run turn _ (con_blk hrH hcf hh hN hU s0 H0 C cl fp) st' H2 _ w2 rst xblk _ fun u y σ3 H3 K3 g3 w3 rv ⟨k, ek, hI3⟩ => ?_
        subst ek
        cases rv.key
        intro s0 H0 C cl fp
        exact TE.run hI3 _ (con_blk hrH hcf hh hN hU s0 H0 C cl fp) st' H3 _ w3 (rst.same g3.b) xblk _ fun v y σ4 H4 K4 g4 w4 rv hI4 => fin (g3.trans g4) w4 rv hI4
      | [a], turn =>
        intro s0 H0 C cl fp
        refine cTs_of (pts_one cT_pt) ?_
        refine Y.TT.run turn _ (con_blk hrH hcf hh hN hU s0 H0 C cl fp) st' H2 _ w2 rst xblk _ fun b b' σ3 H3 K3 g3 w3 rb ⟨h1, h2⟩ => ?_
        subst rb
        cases b with
        | true =>
          refine iteT ?_
          intro s0 H0 C cl fp
          refine (h1 rfl).run _ (con_blk hrH hcf hh hN hU s0 H0 C cl fp) st' H3 _ w3 (rst.same g3.b) xblk _ fun u y σ4 H4 K4 g4 w4 rv ⟨k, ek, hI4⟩ => ?_
          subst ek
          cases rv.key
          intro s0 H0 C cl fp
          exact TE.run hI4 _ (con_blk hrH hcf hh hN hU s0 H0 C cl fp) st' H4 _ w4 (rst.same (g3.trans g4).b) xblk _ fun v y σ5 H5 K5 g5 w5 rv hI5 => fin (g3.trans (g4.trans g5)) w5 rv hI5
        | false =>
          obtain ⟨e3, nD3, nH3⟩ := g3.hid e2 (fun _ z => nomatch z) nD2 nH2
          exact iteF ⟨H3, σ3, acc, vs, g.trans (g2.trans g3), w3, e3, nD3, nH3, ra.same (g2.b.trans g3.b), by omega, h2 rfl⟩
      | _ :: _ :: _, turn => exact turn.elim
    · rintro K' ⟨H', σ', acc, vs, g, w', e, nD, nH, ra, hl, hI⟩
      exact fo _ _ _ H' K' (g1.trans (g.add hD)) (w'.add (c := .dct acc) nH ⟨vs, e, ra⟩) (.ref D) (hq D acc σ' nD hl hI)
/-- what a list comprehension needs -/
abbrev LcNeed (c : Ct) (t : TgS) (own : List (Str × Nat)) (ifs : List Expr) (elt : Expr) (scope : Scope) (ρ : EnvT) (Q : DT → Sg → Prop) (ds : List DT) (σ1 : Sg) : Prop :=
  ds.length ≤ 1000000 ∧ ∃ I : Nat → List DT → Sg → Prop, I 0 [] σ1 ∧
      (∀ i d acc σ2, ds[i]? = some d → I i acc σ2 → ∃ ρ', stT t d (wipeT ρ (own.map (·.2))) = some ρ' ∧ LcT (c.blk scope) ifs elt ρ' σ2 (fun y σ3 => I (i + 1) (acc ++ [y]) σ3) (I (i + 1) acc)) ∧
      (∀ D acc σ2, σ2 D = none → acc.length ≤ ds.length → I ds.length acc σ2 → Q (.ref D) (su σ2 D (.lst acc)))
abbrev DcNeed (c : Ct) (t : TgS) (own : List (Str × Nat)) (ifs : List Expr) (kx vx : Expr) (scope : Scope) (ρ : EnvT) (Q : DT → Sg → Prop) (ds : List DT) (σ1 : Sg) : Prop :=
  ds.length ≤ 1000000 ∧ ∃ I : Nat → List (DK × DT) → Sg → Prop, I 0 [] σ1 ∧
      (∀ i d acc σ2, ds[i]? = some d → I i acc σ2 → ∃ ρ', stT t d (wipeT ρ (own.map (·.2))) = some ρ' ∧ DcT (c.blk scope) ifs kx vx ρ' σ2 (fun k y σ3 => I (i + 1) (putT acc k y) σ3) (I (i + 1) acc)) ∧
      (∀ D acc σ2, σ2 D = none → acc.length ≤ ds.length → I ds.length acc σ2 → Q (.ref D) (su σ2 D (.dct acc)))
theorem te_lcC (htg : TgOk (c.blk scope) tg t) (hb : blkC c.N c.sc scope own = true) (hsub : ∀ j ∈ t.slots, j ∈ own.map (·.2)) (hi : TI c tg iter ρ σ (LcNeed c t own ifs elt scope ρ Q) E)
    (hf : ∀ env x, foldedSetIterable iter env x = pure x := by intro _ _; rfl) : TE c (.ListComp elt [⟨tg, iter, ifs, 0⟩] scope pos) ρ σ Q E := ⟨fun X hX st H K w r xc Q' fo => by
  have hX' := hX
  cases hX' with
  | mk _ k' Wx fa hpp hrH hcf hh hp' ht hf' hN hU hst =>
    have ok := blkOk_by hb
    have go : ∀ tr : L2.TI, tr = cPQ hpp X tg iter → PE X (.ListComp elt [⟨tg, iter, ifs, 0⟩] scope pos) (tLc tr (gOf X.K t) (bTQ X hpp scope ifs) (bEQ X hpp scope elt) (own.map (·.2))) := by
      rintro tr rfl
      cases hpp with
      | none => exact pe_lc (hcf rfl).1 hN cP_pi ok (fun s0 H0 C cl fp => tg_pg htg (con_blk hrH hcf hh hN hU s0 H0 C cl fp)) bTQ_pts0 bEQ_pe0 (hf _)
      | some p => exact pe_lcHot (hh p rfl) hN cE_pe ok (fun s0 H0 C cl fp => tg_pg htg (con_blk hrH hcf hh hN hU s0 H0 C cl fp)) bTQ_pts bEQ_pe (hf _)
    refine cE_of (go _ rfl) ?_
    exact lc_runT hX w r xc fo hsub hi⟩
theorem te_dcC [Calm c] (htg : TgOk (c.blk scope) tg t) (hb : blkC c.N c.sc scope own = true) (hsub : ∀ j ∈ t.slots, j ∈ own.map (·.2)) (hi : TI c tg iter ρ σ (DcNeed c t own ifs kx vx scope ρ Q) E)
    (hf : ∀ env x, foldedSetIterable iter env x = pure x := by intro _ _; rfl) : TE c (.DictComp kx vx [⟨tg, iter, ifs, 0⟩] scope pos) ρ σ Q E := ⟨fun X hX st H K w r xc Q' fo => by
  have hX' := hX
  cases hX' with
  | mk _ k' Wx fa hpp hrH hcf hh hp' ht hf' hN hU hst =>
    obtain rfl : hpp = none := ‹Calm _›.h
    obtain ⟨hc, hr⟩ := hcf rfl
    refine cE_of (pe_dc hc hN cP_pi (blkOk_by hb) (fun s0 H0 C cl fp => tg_pg htg (con_blk hrH hcf hh hN hU s0 H0 C cl fp)) bTQ_pts0 bEQ_pe0 bEQ_pe0 (hf _)) ?_
    exact dc_runT hX w r xc fo hsub hi⟩
end
end Y

/-! Y4: statements, defs. -/
namespace Y
open PySem PySem.Spec L2 SX Z
open PyProof.Rows (subscriptTail)
structure EndT where
  nx : EnvT → Sg → Prop
  rt : DT → Sg → Prop
  bk : EnvT → Sg → Prop := fun _ _ => False
  ct : EnvT → Sg → Prop := fun _ _ => False
  ex : Value → Option (List (Str × DT)) → EnvT → Sg → Prop := fun _ _ _ _ => False
/-- what may leave an expression at these slots -/
abbrev xD (D : EndT) (ρ : EnvT) : TX := fun cls x σ => D.ex cls x ρ σ
structure FoS (c : Ct) (H : Hp) (σ : Sg) (K : Hp) (D : EndT) (D' : Ends) : Prop where
  nx : ∀ ρ' σ' st' H' K', Gw H σ K H' σ' K' → Wd c.K H' σ' K' → REnv c.K H' ρ' st' → D.nx ρ' σ' → D'.nx st' K'
  rt : ∀ v d σ' H' K', Gw H σ K H' σ' K' → Wd c.K H' σ' K' → Rep c.K H' v d → D.rt d σ' → D'.rt v K'
  bk : ∀ ρ' σ' st' H' K', Gw H σ K H' σ' K' → Wd c.K H' σ' K' → REnv c.K H' ρ' st' → D.bk ρ' σ' → D'.bk st' K'
  ct : ∀ ρ' σ' st' H' K', Gw H σ K H' σ' K' → Wd c.K H' σ' K' → REnv c.K H' ρ' st' → D.ct ρ' σ' → D'.ct st' K'
  ex : ∀ cls dA x ρ' σ' st' H' K', Gw H σ K H' σ' K' → Wd c.K H' σ' K' → REnv c.K H' ρ' st' → XRep c.K H' dA x → D.ex cls x ρ' σ' → c.Wx cls dA st' K'
theorem FoS.next {c : Ct} {H H1 K K1 : Hp} {σ σ1 : Sg} {D : EndT} {D' : Ends} (f : FoS c H σ K D D') (g : Gw H σ K H1 σ1 K1) : FoS c H1 σ1 K1 D D' where
  nx := fun ρ' σ' st' H' K' g' => f.nx ρ' σ' st' H' K' (g.trans g')
  rt := fun v d σ' H' K' g' => f.rt v d σ' H' K' (g.trans g')
  bk := fun ρ' σ' st' H' K' g' => f.bk ρ' σ' st' H' K' (g.trans g')
  ct := fun ρ' σ' st' H' K' g' => f.ct ρ' σ' st' H' K' (g.trans g')
  ex := fun cls dA x ρ' σ' st' H' K' g' => f.ex cls dA x ρ' σ' st' H' K' (g.trans g')
theorem FoS.xc {c : Ct} {H K : Hp} {σ : Sg} {D : EndT} {D' : Ends} {ρ : EnvT} {st : L2.St} (f : FoS c H σ K D D') (r : REnv c.K H ρ st) : XC c H σ K st (xD D ρ) := fun cls dA x σ' H' K' g w xr e => f.ex cls dA x ρ σ' st H' K' g w (r.same g.b) xr e
structure TS (c : Ct) (s : Stmt) (ρ : EnvT) (σ : Sg) (D : EndT) : Prop where
  run : ∀ X, Con c X → ∀ st H K, Wd c.K H σ K → REnv c.K H ρ st → ∀ D', FoS c H σ K D D' → cS X s D' st K
structure TBk (c : Ct) (b : List Stmt) (ρ : EnvT) (σ : Sg) (D : EndT) : Prop where
  run : ∀ X, Con c X → ∀ st H K, Wd c.K H σ K → REnv c.K H ρ st → ∀ D', FoS c H σ K D D' → cB X b D' st K
section
variable {c : Ct} {ρ : EnvT} {σ : Sg} {D : EndT} {e a b tg iter elt kx vx o : Expr} {es : List Expr} {ifs : List Expr} {scope : Scope} {pos p1 apos : Pos} {own : List (Str × Nat)} {t : TgS} {s : Stmt} {r b1 b2 body : List Stmt} {x : Str} {d : DT}
theorem tk_nil (h : D.nx ρ σ) : TBk c [] ρ σ D := ⟨fun X hX st H K w re D' f => b_nil (f.nx ρ σ st H K Gw.refl w re h)⟩
theorem tk_cons (h : TS c s ρ σ { D with nx := fun ρ' σ' => TBk c r ρ' σ' D }) : TBk c (s :: r) ρ σ D := ⟨fun X hX st H K w re D' f => by
  refine b_cons (h.run X hX st H K w re _ ⟨fun ρ' σ' st' H' K' g w' re' q => ?_, f.rt, f.bk, f.ct, f.ex⟩)
  exact q.run X hX st' H' K' w' re' D' (f.next g)⟩
theorem TS.imp {D1 : EndT} (h : TS c s ρ σ D1) (nx : ∀ ρ σ, D1.nx ρ σ → D.nx ρ σ) (rt : ∀ ρ σ, D1.rt ρ σ → D.rt ρ σ) (bk : ∀ ρ σ, D1.bk ρ σ → D.bk ρ σ) (ct : ∀ ρ σ, D1.ct ρ σ → D.ct ρ σ) (ex : ∀ a b ρ σ, D1.ex a b ρ σ → D.ex a b ρ σ) : TS c s ρ σ D := ⟨fun X hX st H K w re D' f =>
  h.run X hX st H K w re D' ⟨fun ρ' σ' st' H' K' g w r q => f.nx _ _ _ _ _ g w r (nx _ _ q), fun v d σ' H' K' g w r q => f.rt _ _ _ _ _ g w r (rt _ _ q), fun ρ' σ' st' H' K' g w r q => f.bk _ _ _ _ _ g w r (bk _ _ q), fun ρ' σ' st' H' K' g w r q => f.ct _ _ _ _ _ g w r (ct _ _ q),
    fun cls dA x ρ' σ' st' H' K' g w r xr q => f.ex _ _ _ _ _ _ _ _ g w r xr (ex _ _ _ _ q)⟩⟩
/-- weaker slots: a slot no longer told -/
theorem tk_forget (i : Nat) (hi : ρ[i]? = ρ[i]?) (h : TBk c r (ρ.set i none) σ D) : TBk c r ρ σ D := ⟨fun X hX st H K w re D' f => h.run X hX st H K w ⟨by rw [List.length_set]; exact re.len, fun j d e => by
  rw [List.getElem?_set] at e
  split at e
  · split at e <;> cases e
  · exact re.get j d e⟩ D' f⟩
theorem tk_drop (p : Addr) (h : TBk c r ρ (sd σ p) D) : TBk c r ρ σ D := ⟨fun X hX st H K w re D' f => h.run X hX st H K w.drop re D' (f.next Gw.refl.drop)⟩
/-- a cell held by a slot is known for good from now on -/
theorem tk_frz {i : Nat} {p : Addr} {k : Cell} (hi : ρ[i]? = some (some (.ref p))) (hs : σ p = some k) (h : TBk c r (ρ.set i (some k.tree)) (sd σ p) D) : TBk c r ρ σ D := ⟨fun X hX st H K w re D' f pins s I => by
  obtain ⟨H2, K2, I2, g, w2, r2⟩ := w.freeze hs I
  obtain ⟨v, e, rv⟩ := re.get i _ hi
  have hv : v = .ref p := by cases rv; rfl
  subst hv
  refine h.run X hX st H2 K2 w2 ⟨by rw [List.length_set]; exact re.len, fun j d e2 => ?_⟩ D' (f.next g) pins s I2
  rw [List.getElem?_set] at e2
  split at e2
  · next z =>
    subst z
    split at e2
    · cases e2
      exact ⟨_, e, r2⟩
    · cases e2
  · obtain ⟨v, q1, q2⟩ := re.get j d e2
    exact ⟨v, q1, q2.same g.b⟩⟩
theorem tk_frz2 {p : Addr} {k : Cell} (hs : σ p = some k) (h : TBk c r ρ (sd σ p) D) : TBk c r ρ σ D := tk_drop p h

/-- a name that is stored -/
theorem ts_set {i : Nat} (hi : StoreN c x i) (h : TE c e ρ σ (fun d σ1 => D.nx (ρ.set i (some d)) σ1) (xD D ρ)) (hs : ∀ env, swapsWith e (some (.Name x p1)) pos.line env = pure false := by intro _; rfl) : TS c (.Assign [.Name x p1] e pos) ρ σ D := ⟨fun X hX st H K w re D' f => by
  have hX' := hX
  cases hX' with
  | mk _ k' Wx fa hpp hrH hcf hh hp' ht hf hN hU hst =>
    obtain ⟨h1, h2, h3⟩ := hi
    refine cS_of (ps_set hN h1 h2 cE_pe (hs _) (h3.imp (fun z => hf z x) id)) ?_
    exact h.run X hX st H K w re (f.xc re) _ fun v d σ1 H1 K1 g1 w1 rv q => f.nx _ _ _ H1 K1 g1 w1 ((re.same g1.b).set rv i) q⟩
theorem tk_set {i : Nat} (hi : StoreN c x i) (h : TE c e ρ σ (fun d σ1 => TBk c r (ρ.set i (some d)) σ1 D) (xD D ρ)) (hs : ∀ env, swapsWith e (some (.Name x p1)) pos.line env = pure false := by intro _; rfl) : TBk c (.Assign [.Name x p1] e pos :: r) ρ σ D := tk_cons (ts_set hi h hs)
theorem tk_setV {i : Nat} (hi : StoreN c x i) (he : TV c e ρ σ d) (h : TBk c r (ρ.set i (some d)) σ D) (hs : ∀ env, swapsWith e (some (.Name x p1)) pos.line env = pure false := by intro _; rfl) : TBk c (.Assign [.Name x p1] e pos :: r) ρ σ D := tk_set hi (he.to h) hs
/-- x = [..] on one line, x plain -/
theorem ts_setLc {i : Nat} (hy : c.N[i]? = some x) (hyl : c.sc.names.lookup x = some .local) (hln : (p1.line == pos.line) = true) (hown : (scope.names.any fun (n, k) => n == x && (k == .local || k == .cell)) = false)
    (htg : TgOk (c.blk scope) tg t) (hb : blkC c.N c.sc scope own = true) (hsub : ∀ j ∈ t.slots, j ∈ own.map (·.2)) (hi : TI c tg iter ρ σ (LcNeed c t own ifs elt scope ρ (fun d σ1 => D.nx (ρ.set i (some d)) σ1)) (xD D ρ)) {p2 : Pos}
    (hf : ∀ env x, foldedSetIterable iter env x = pure x := by intro _ _; rfl) : TS c (.Assign [.Name x p1] (.ListComp elt [⟨tg, iter, ifs, 0⟩] scope pos) p2) ρ σ D := ⟨fun X hX st H K w re D' f => by
  have hX' := hX
  cases hX' with
  | mk _ k' Wx fa hpp hrH hcf hh hp' ht hf' hN hU hst =>
    intro pins s J0
    have ok := blkOk_by hb
    have go : ∀ tr : L2.TI, tr = cPQ hpp X tg iter → PS X (.Assign [.Name x p1] (.ListComp elt [⟨tg, iter, ifs, 0⟩] scope pos) p2) (tAsg (tLc tr (gOf X.K t) (bTQ X hpp scope ifs) (bEQ X hpp scope elt) (own.map (·.2))) (gName i)) := by
      rintro tr rfl
      cases hpp with
      | none => exact ps_setLc (hcf rfl).1 hN hy hyl (sw_true J0.ok.kind hyl hln hown) cP_pi ok (fun s0 H0 C cl fp => tg_pg htg (con_blk hrH hcf hh hN hU s0 H0 C cl fp)) bTQ_pts0 bEQ_pe0 (hf _)
      | some p => exact ps_setLcHot (hh p rfl) hN hy hyl (sw_true J0.ok.kind hyl hln hown) cE_pe ok (fun s0 H0 C cl fp => tg_pg htg (con_blk hrH hcf hh hN hU s0 H0 C cl fp)) bTQ_pts bEQ_pe (hf _)
    refine cS_of (go _ rfl) ?_ pins s J0
    exact lc_runT hX w re (f.xc re) (fun v d σ1 H1 K1 g1 w1 rv q => f.nx _ _ _ H1 K1 g1 w1 ((re.same g1.b).set rv i) q) hsub hi⟩
theorem ts_setDc [Calm c] {i : Nat} (hy : c.N[i]? = some x) (hyl : c.sc.names.lookup x = some .local) (hln : (p1.line == pos.line) = true) (hown : (scope.names.any fun (n, k) => n == x && (k == .local || k == .cell)) = false)
    (htg : TgOk (c.blk scope) tg t) (hb : blkC c.N c.sc scope own = true) (hsub : ∀ j ∈ t.slots, j ∈ own.map (·.2)) (hi : TI c tg iter ρ σ (DcNeed c t own ifs kx vx scope ρ (fun d σ1 => D.nx (ρ.set i (some d)) σ1)) (xD D ρ)) {p2 : Pos}
    (hf : ∀ env x, foldedSetIterable iter env x = pure x := by intro _ _; rfl) : TS c (.Assign [.Name x p1] (.DictComp kx vx [⟨tg, iter, ifs, 0⟩] scope pos) p2) ρ σ D := ⟨fun X hX st H K w re D' f => by
  have hX' := hX
  cases hX' with
  | mk _ k' Wx fa hpp hrH hcf hh hp' ht hf' hN hU hst =>
    obtain rfl : hpp = none := ‹Calm _›.h
    obtain ⟨hc, hr⟩ := hcf rfl
    intro pins s J0
    refine cS_of (ps_setDc hc hN hy hyl (sw_dict J0.ok.kind hyl hln hown) cP_pi (blkOk_by hb) (fun s0 H0 C cl fp => tg_pg htg (con_blk hrH hcf hh hN hU s0 H0 C cl fp)) bTQ_pts0 bEQ_pe0 bEQ_pe0 (hf _)) ?_ pins s J0
    exact dc_runT hX w re (f.xc re) (fun v d σ1 H1 K1 g1 w1 rv q => f.nx _ _ _ H1 K1 g1 w1 ((re.same g1.b).set rv i) q) hsub hi⟩
/-- x = [..] where another comprehension reads x -/
theorem ts_setLcC {gs : List Comprehension} {p2 : Pos} {i : Nat} (hi : StoreN c x i) (hc2 : c.sc.names.lookup x = some .cell) (h : TE c (.ListComp elt gs scope p2) ρ σ (fun d σ1 => D.nx (ρ.set i (some d)) σ1) (xD D ρ)) : TS c (.Assign [.Name x p1] (.ListComp elt gs scope p2) pos) ρ σ D := ⟨fun X hX st H K w re D' f => by
  have hX' := hX
  cases hX' with
  | mk _ k' Wx fa hpp hrH hcf hh hp' ht hf hN hU hst =>
    obtain ⟨h1, h2, h3⟩ := hi
    refine cS_of (ps_set hN h1 h2 cE_pe (sw_lcCell hc2) (h3.imp (fun z => hf z x) id)) ?_
    exact h.run X hX st H K w re (f.xc re) _ fun v d σ1 H1 K1 g1 w1 rv q => f.nx _ _ _ H1 K1 g1 w1 ((re.same g1.b).set rv i) q⟩
theorem ts_ret (h : TE c e ρ σ D.rt (xD D ρ)) : TS c (.Return (some e) pos) ρ σ D := ⟨fun X hX st H K w re D' f => cS_of (ps_ret cE_pe) (h.run X hX st H K w re (f.xc re) _ f.rt)⟩
theorem ts_retN (h : D.rt .non σ) : TS c (.Return none pos) ρ σ D := ⟨fun X hX st H K w re D' f => cS_of ps_retN (f.rt _ _ σ H K Gw.refl w .non h)⟩
theorem ts_pass (h : D.nx ρ σ) : TS c (.Pass pos) ρ σ D := ⟨fun X hX st H K w re D' f => cS_of ps_pass (f.nx ρ σ st H K Gw.refl w re h)⟩
theorem ts_brk (h : D.bk ρ σ) : TS c (.Break pos) ρ σ D := ⟨fun X hX st H K w re D' f => cS_of ps_break (f.bk ρ σ st H K Gw.refl w re h)⟩
theorem ts_expr (h : TE c e ρ σ (fun _ σ1 => D.nx ρ σ1) (xD D ρ)) (hs : ∀ env, swapsWith e none pos.line env = pure false := by intro _; rfl) : TS c (.Expr e pos) ρ σ D := ⟨fun X hX st H K w re D' f =>
  cS_of (ps_expr cE_pe (hs _)) (h.run X hX st H K w re (f.xc re) _ fun v d σ1 H1 K1 g1 w1 rv q => f.nx _ _ _ H1 K1 g1 w1 (re.same g1.b) q)⟩
theorem ts_doc {x : Str} {j : Nat} (h : D.nx ρ σ) : TS c (.Expr (.Constant (.str x) j p1) pos) ρ σ D := ⟨fun X hX st H K w re D' f => cS_of ps_doc (f.nx ρ σ st H K Gw.refl w re h)⟩
theorem ts_if (h : TT c e ρ σ (fun r σ1 => (r = true → TBk c b1 ρ σ1 D) ∧ (r = false → TBk c b2 ρ σ1 D)) (xD D ρ)) : TS c (.If e b1 b2 pos) ρ σ D := ⟨fun X hX st H K w re D' f => by
  refine cS_of (ps_if cT_pt cB_pss cB_pss) ?_
  refine h.run X hX st H K w re (f.xc re) _ fun v v' σ1 H1 K1 g1 w1 rv ⟨h1, h2⟩ => ?_
  subst rv
  cases v with
  | true => exact iteT ((h1 rfl).run X hX st H1 K1 w1 (re.same g1.b) D' (f.next g1))
  | false => exact iteF ((h2 rfl).run X hX st H1 K1 w1 (re.same g1.b) D' (f.next g1))⟩
theorem tk_if {v : Bool} (he : TB c e ρ σ v) (h1 : v = true → TBk c b1 ρ σ { D with nx := fun ρ' σ' => TBk c r ρ' σ' D }) (h2 : v = false → TBk c b2 ρ σ { D with nx := fun ρ' σ' => TBk c r ρ' σ' D }) : TBk c (.If e b1 b2 pos :: r) ρ σ D := tk_cons (ts_if (he.to ⟨h1, h2⟩))
theorem tk_ifT (he : TB c e ρ σ true) (h1 : TBk c b1 ρ σ { D with nx := fun ρ' σ' => TBk c r ρ' σ' D }) : TBk c (.If e b1 b2 pos :: r) ρ σ D := tk_if he (fun _ => h1) (fun z => nomatch z)
theorem tk_ifF (he : TB c e ρ σ false) (h2 : TBk c b2 ρ σ { D with nx := fun ρ' σ' => TBk c r ρ' σ' D }) : TBk c (.If e b1 b2 pos :: r) ρ σ D := tk_if he (fun z => nomatch z) (fun _ => h2)
/-- .. a test that ends the def, or goes on (no else) -/
theorem tk_ifG {v : Bool} (he : TB c e ρ σ v) (h1 : v = true → TBk c b1 ρ σ { D with nx := fun ρ' σ' => TBk c r ρ' σ' D }) (h2 : v = false → TBk c r ρ σ D) : TBk c (.If e b1 [] pos :: r) ρ σ D := tk_if he h1 (fun z => tk_nil (h2 z))
theorem tk_ret {v : DT} (he : TV c e ρ σ v) (h : D.rt v σ) : TBk c (.Return (some e) pos :: r) ρ σ D := tk_cons (ts_ret (he.to h))
/-- x op= e -/
theorem ts_aug {i : Nat} {op : Operator} {v : DT} (hi : StoreN c x i) (hv : ρ[i]? = some (some v)) (h : TE c e ρ σ (fun y σ1 => ∃ d, PO2 c (inplaceOp op) v y σ1 d ∧ D.nx (ρ.set i (some d)) σ1) (xD D ρ)) : TS c (.AugAssign (.Name x p1) op e pos) ρ σ D := ⟨fun X hX st H K w re D' f => by
  have hX' := hX
  cases hX' with
  | mk _ k' Wx fa hpp hrH hcf hh hp' ht hf hN hU hst =>
    obtain ⟨h1, h2, h3⟩ := hi
    obtain ⟨u, eu, ru⟩ := re.get i v hv
    refine cS_of (ps_aug (ti := cO X (inplaceOp op)) hN h1 h2 cE_pe (fun pins s st _ x y v u _ I r1 r2 h => h pins s st v u I r1 r2) (h3.imp (fun z => hf z x) id)) ?_
    refine ⟨u, eu, h.run X hX st H K w re (f.xc re) _ fun y dy σ1 H1 K1 g1 w1 ry ⟨d, hd, q⟩ => ?_⟩
    exact hd.run X hX H1 K1 w1 u y (ru.same g1.b) ry _ fun z H2 K2 g2 w2 rz => f.nx _ _ _ H2 K2 (g1.trans g2) w2 ((re.same (g1.trans g2).b).set rz i) q⟩
theorem tk_aug {i : Nat} {op : Operator} {v y : DT} (hi : StoreN c x i) (hv : ρ[i]? = some (some v)) (he : TV c e ρ σ y) (ho : PO2 c (inplaceOp op) v y σ d) (h : TBk c r (ρ.set i (some d)) σ D) : TBk c (.AugAssign (.Name x p1) op e pos :: r) ρ σ D := tk_cons (ts_aug hi hv (he.to ⟨d, ho, h⟩))
/-- a target of several names -/
theorem ts_tg {k : Nat} (htg : TgOk c (.Tuple es k p1) t) (h : TE c e ρ σ (fun d σ1 => ∃ ρ', stT t d ρ = some ρ' ∧ D.nx ρ' σ1) (xD D ρ)) (hs : ∀ env, swapsWithSole [.Tuple es k p1] e pos.line env = pure false := by intro _; rfl) (hw : ∀ env, swappedStores [.Tuple es k p1] e env = pure none := by intro _; rfl) : TS c (.Assign [.Tuple es k p1] e pos) ρ σ D := ⟨fun X hX st H K w re D' f => by
  refine cS_of (ps_asg cE_pe (tg_pg htg hX) (hs _) (hw _)) ?_
  refine h.run X hX st H K w re (f.xc re) _ fun v d σ1 H1 K1 g1 w1 rv ⟨ρ', h1, q⟩ => ?_
  exact g_of w1 rv (re.same g1.b) h1 fun st' re' _ => f.nx _ _ _ H1 K1 g1 w1 re' q⟩
/-- .. from a list -/
theorem ts_tgL [Calm c] {js : List Nat} {k : Nat} (hn : IsNs c es js) (h : TE c e ρ σ (fun d σ1 => ∃ ds, d = .lst ds ∧ ds.length = js.length ∧ D.nx (setT ρ js ds) σ1) (xD D ρ)) (hs : ∀ env, swapsWithSole [.Tuple es k p1] e pos.line env = pure false := by intro _; rfl) (hw : ∀ env, swappedStores [.Tuple es k p1] e env = pure none := by intro _; rfl) : TS c (.Assign [.Tuple es k p1] e pos) ρ σ D := ⟨fun X hX st H K w re D' f => by
  have hX' := hX
  cases hX' with
  | mk _ k' Wx fa hpp hrH hcf hh hp' ht hf hN hU hst =>
    obtain rfl : hpp = none := ‹Calm _›.h
    obtain ⟨hc, hr⟩ := hcf rfl
    obtain ⟨q1, q2, q3⟩ := pgs_names hX hn
    refine cS_of (ps_asg cE_pe (pg_unl hc q1 q2 q3) (hs _) (hw _)) ?_
    refine h.run X hX st H K w re (f.xc re) _ fun v d σ1 H1 K1 g1 w1 rv ⟨ds, h1, h2, q⟩ => ?_
    subst h1
    cases rv with
    | lst hsq ra =>
      rename_i a vs
      have hl : vs.length = js.length := ra.length.trans h2
      exact ⟨a, vs, rfl, SqL.of (w1.le _ _ hsq), hl, gNs_of js vs st hl (f.nx _ _ _ H1 K1 g1 w1 ((re.same g1.b).setAll ra) q)⟩⟩
/-- a, b = e1, e2, both plain -/
theorem ts_par [Calm c] {i j : Nat} {y : Str} {px py pt p2 : Pos} {kt k2 : Nat} (hi : c.N[i]? = some x) (hj : c.N[j]? = some y) (hij : i ≠ j) (hx : c.sc.names.lookup x = some .local) (hy : c.sc.names.lookup y = some .local)
    (h : TA c [a, b] ρ σ (fun ds σ1 => ∃ v w, ds = [v, w] ∧ D.nx ((ρ.set i (some v)).set j (some w)) σ1) (xD D ρ))
    (hw : ∀ env : Env, env.blockKind = .function → env.kindOf x = some .local → env.kindOf y = some .local → swappedStores [.Tuple [.Name x px, .Name y py] kt pt] (.Tuple [a, b] k2 p2) env = pure (some [x, y])) :
    TS c (.Assign [.Tuple [.Name x px, .Name y py] kt pt] (.Tuple [a, b] k2 p2) pos) ρ σ D := ⟨fun X hX st H K w re D' f => by
  have hX' := hX
  cases hX' with
  | mk _ k' Wx fa hpp hrH hcf hh hp' ht hf hN hU hst =>
    obtain rfl : hpp = none := ‹Calm _›.h
    obtain ⟨hc, hr⟩ := hcf rfl
    intro pins s I
    have hk : X.env.blockKind = .function := by
      have z : X.env.scope.kind = .function := I.ok.kind
      unfold Env.blockKind
      rw [z]
      rfl
    refine cS_of (L2.ps_par hc hN hi hj hij hx hy cA_pa (hw _ hk hx hy)) ?_ pins s I
    refine h.run X hX st H K w re (f.xc re) _ fun vs ds σ1 H1 K1 g1 w1 ra ⟨v, w', e1, q⟩ => ?_
    subst e1
    cases ra with
    | cons h1 t =>
      cases t with
      | cons h2 t2 =>
        cases t2
        exact ⟨_, _, rfl, f.nx _ _ _ H1 K1 g1 w1 (((re.same g1.b).set h1 i).set h2 j) q⟩⟩
/-- .. one of them read by a comprehension -/
theorem ts_un2 [Calm c] {i j : Nat} {y : Str} {px py pt p2 : Pos} {kt k2 : Nat} (hi : IsN c (.Name x px) i) (hj : IsN c (.Name y py) j) (h : TE c (.Tuple [a, b] k2 p2) ρ σ (fun d σ1 => ∃ v w, d = .tup [v, w] ∧ D.nx ((ρ.set i (some v)).set j (some w)) σ1) (xD D ρ))
    (hn : c.sc.names.lookup x = some .cell ∨ c.sc.names.lookup y = some .cell) (hs : ([a, b].any fun | .Starred .. => true | _ => false) = false := by rfl)
    (hsw : ∀ env, swapsWithSole [.Tuple [.Name x px, .Name y py] kt pt] (.Tuple [a, b] k2 p2) pos.line env = pure false := by intro _; rfl) : TS c (.Assign [.Tuple [.Name x px, .Name y py] kt pt] (.Tuple [a, b] k2 p2) pos) ρ σ D := ⟨fun X hX st H K w re D' f => by
  have hX' := hX
  have gx := isN_pg hi hX
  have gy := isN_pg hj hX
  obtain ⟨_, _, e1, _, lx, _⟩ := hi
  obtain ⟨_, _, e2, _, ly, _⟩ := hj
  cases e1
  cases e2
  cases hX' with
  | mk _ k' Wx fa hpp hrH hcf hh hp ht hf hN hU hst =>
    obtain rfl : hpp = none := ‹Calm _›.h
    obtain ⟨hc, hr⟩ := hcf rfl
    intro pins s I
    have hk : X.env.blockKind = .function := by
      have z : X.env.scope.kind = .function := I.ok.kind
      unfold Env.blockKind
      rw [z]
      rfl
    refine cS_of (ps_asg cE_pe (pg_tup hc (pgs_cons gx (pgs_cons gy pgs_nil))) (hsw _) (sw_half hk lx ly hn hs)) ?_ pins s I
    refine h.run X hX st H K w re (f.xc re) _ fun v d σ1 H1 K1 g1 w1 rv ⟨u1, u2, h1, q⟩ => ?_
    subst h1
    cases rv with
    | tup hsq ra =>
      cases ra with
      | cons h1 t =>
        cases t with
        | cons h2 t2 =>
          cases t2
          exact ⟨_, _, rfl, same_sqt w1.le hsq, rfl, _, _, rfl, _, _, rfl, rfl, f.nx _ _ _ H1 K1 g1 w1 (((re.same g1.b).set h1 i).set h2 j) q⟩⟩
/-! ### loops -/
theorem ts_for [Calm c] (htg : TgOk c tg t) (hi : TI c tg iter ρ σ (fun ds σ1 => ∃ I : Nat → EnvT → Sg → Prop, I 0 ρ σ1 ∧
      (∀ i d ρ1 σ2, ds[i]? = some d → I i ρ1 σ2 → ∃ ρ2, stT t d ρ1 = some ρ2 ∧ TBk c body ρ2 σ2 { D with nx := I (i + 1), ct := I (i + 1), bk := D.nx }) ∧ (∀ ρ1 σ2, I ds.length ρ1 σ2 → D.nx ρ1 σ2)) (xD D ρ))
    (hf : ∀ env x, foldedSetIterable iter env x = pure x := by intro _ _; rfl) : TS c (.For tg iter body [] pos) ρ σ D := ⟨fun X hX st H K w re D' f => by
  have hX' := hX
  cases hX' with
  | mk _ k' Wx fa hpp hrH hcf hh hp' hth hf' hN hU hst =>
    obtain rfl : hpp = none := ‹Calm _›.h
    obtain ⟨hc, hr⟩ := hcf rfl
    refine cS_of (ps_for hp' hc cP_pi (tg_pg htg hX) cB_pss (hf _)) ?_
    refine hi.run X hX st H K w re (f.xc re) _ fun ds σ1 Jt G Yh H1 K1 g1 w1 ⟨I, h0, hs, hd⟩ wk hG hy => ?_
    refine for_it wk (fun i st' K' => ∃ H' σ' ρ', Gw H1 σ1 K1 H' σ' K' ∧ Wd X.K H' σ' K' ∧ REnv X.K H' ρ' st' ∧ I i ρ' σ') ⟨H1, σ1, ρ, Gw.refl, w1, re.same g1.b, h0⟩ ?_ ?_ ?_
    · rintro i st' K' _ ⟨H', σ', ρ', g, w', _, _⟩
      exact hG H' σ' K' g.b w'
    · rintro i v st' Ka Kb hlt ⟨H', σ', ρ', g, w', re', hI⟩ yy
      obtain ⟨H2, d, hdd, g2, w2, rd, _⟩ := hy i v H' σ' Ka Kb hlt g.b w' yy
      obtain ⟨ρ2, hst, hb⟩ := hs i d ρ' σ' hdd hI
      refine g_of w2 rd (re'.same g2.b) hst fun st2 re2 _ => ?_
      have gg := g1.trans (g.trans g2)
      refine hb.run X hX st2 H2 Kb w2 re2 _ ⟨fun ρ3 σ3 st3 H3 K3 g3 w3 re3 q => ⟨H3, σ3, ρ3, g.trans (g2.trans g3), w3, re3, q⟩, fun v d σ3 H3 K3 g3 => f.rt v d σ3 H3 K3 (gg.trans g3), fun ρ3 σ3 st3 H3 K3 g3 => f.nx ρ3 σ3 st3 H3 K3 (gg.trans g3), fun ρ3 σ3 st3 H3 K3 g3 w3 re3 q => ⟨H3, σ3, ρ3, g.trans (g2.trans g3), w3, re3, q⟩,
        fun cls dA x ρ3 σ3 st3 H3 K3 g3 => f.ex cls dA x ρ3 σ3 st3 H3 K3 (gg.trans g3)⟩
    · rintro st' K' ⟨H', σ', ρ', g, w', re', hI⟩
      exact f.nx _ _ _ H' K' (g1.trans g) w' re' (hd ρ' σ' hI)⟩
theorem ts_while (I : Nat → EnvT → Sg → Prop) {m0 : Nat} (h0 : I m0 ρ σ)
    (hs : ∀ m ρ1 σ1, I m ρ1 σ1 → TT c e ρ1 σ1 (fun v σ2 => (v = true → TBk c body ρ1 σ2 { D with nx := fun ρ3 σ3 => ∃ m', m' < m ∧ I m' ρ3 σ3, ct := fun ρ3 σ3 => ∃ m', m' < m ∧ I m' ρ3 σ3, bk := D.nx }) ∧ (v = false → D.nx ρ1 σ2)) (xD D ρ1)) : TS c (.While e body [] pos) ρ σ D := ⟨fun X hX st H K w re D' f => by
  have hX' := hX
  cases hX' with
  | mk _ k' Wx fa hpp hrH hcf hh hp' hth hf' hN hU hst =>
    refine cS_of (ps_while hp' cT_pt cB_pss) ?_
    refine ⟨fun m st' K' => ∃ H' σ' ρ', Gw H σ K H' σ' K' ∧ Wd X.K H' σ' K' ∧ REnv X.K H' ρ' st' ∧ I m ρ' σ', ⟨m0, H, σ, ρ, Gw.refl, w, re, h0⟩, ?_⟩
    rintro m st' K' ⟨H', σ', ρ', g, w', re', hI⟩
    refine (hs m ρ' σ' hI).run X hX st' H' K' w' re' (f.next g |>.xc re') _ fun v v' σ2 H2 K2 g2 w2 rv ⟨h1, h2⟩ => ?_
    subst rv
    have gg := g.trans g2
    cases v with
    | true =>
      refine iteT ⟨fun st2 K2 => ∃ m', m' < m ∧ ∃ H' σ' ρ', Gw H σ K H' σ' K2 ∧ Wd X.K H' σ' K2 ∧ REnv X.K H' ρ' st2 ∧ I m' ρ' σ', fun st2 K2 z => z, ?_⟩
      refine (h1 rfl).run X hX st' H2 K2 w2 (re'.same g2.b) _ ⟨fun ρ3 σ3 st3 H3 K3 g3 w3 re3 ⟨m', hm, q⟩ => ⟨m', hm, H3, σ3, ρ3, gg.trans g3, w3, re3, q⟩, fun v d σ3 H3 K3 g3 => f.rt v d σ3 H3 K3 (gg.trans g3), fun ρ3 σ3 st3 H3 K3 g3 => f.nx ρ3 σ3 st3 H3 K3 (gg.trans g3), fun ρ3 σ3 st3 H3 K3 g3 w3 re3 ⟨m', hm, q⟩ => ⟨m', hm, H3, σ3, ρ3, gg.trans g3, w3, re3, q⟩,
        fun cls dA x ρ3 σ3 st3 H3 K3 g3 => f.ex cls dA x ρ3 σ3 st3 H3 K3 (gg.trans g3)⟩
    | false => exact iteF (f.nx _ _ _ H2 K2 gg w2 (re'.same g2.b) (h2 rfl))⟩
end

/-! ### a def -/
/-- a def of the text as the top left it -/
def startT (N : List Str) (ds : List DT) : EnvT := ds.map some ++ List.replicate (N.length - ds.length) none
abbrev ctQ (hp : HP) (P : Program) (w : World) (F : PySem.W.Frag) (mg : Str → Option Value) (base : Heap) (N : List Str) (st : Stmt) (k : Nat) (Wx : WX) : Ct := ⟨P, w, F, mg, base, N, defScope st, k, Wx, true, hp⟩
abbrev ctD (P : Program) (w : World) (F : PySem.W.Frag) (mg : Str → Option Value) (base : Heap) (N : List Str) (st : Stmt) (k : Nat) (Wx : WX) : Ct := ⟨P, w, F, mg, base, N, defScope st, k, Wx, true, none⟩
theorem fnQ_ok {hp : HP} {P : Program} {w : World} {F : PySem.W.Frag} {mg : Str → Option Value} {base : Heap} {x qual : Str} {st : Stmt} {f : Addr} {fd : FuncData} {N ps : List Str} {k : Nat} {spec : TSpec} (Fn : Fun F x qual st f fd) (S : FnScope N ps (defScope st)) (len : ∀ ds σ Q E, spec ds σ Q E → ds.length = ps.length)
    (hb : ∀ (ds : List DT) (σ : Sg) (Q : DT → Sg → Prop) (E : TX) (Wx : WX), spec ds σ Q E → TBk (ctQ hp P w F mg base N st k Wx) (defBody st) (startT N ds) σ { nx := fun _ σ' => Q .non σ', rt := Q, ex := fun cls x _ σ' => E cls x σ' }) : FnC hp P w F mg base (k + 1) f fd ps (spT F spec) := by
  refine fnC_of Fn S (fun vs K Q E h => ?_) (fun cdv A outer s K vs Q E hr hA hot hG h => ?_)
  · obtain ⟨ds, H, σ, Qd, Ed, _, ra, h, _⟩ := h
    exact ra.length.trans (len _ _ _ _ h)
  · obtain ⟨ds, H, σ, Qd, Ed, wd, ra, h, q, x⟩ := h
    refine ⟨_, cB_pss, ?_⟩
    refine (hb ds σ Qd Ed (fun cls d _ H => E cls d H) h).run _ ?_ _ H K wd ?_ _ ⟨fun ρ' σ' st' H' K' g w' _ e => q _ _ σ' H' K' g w' .non e, fun v d σ' H' K' g w' rv e => q v d σ' H' K' g w' rv e, fun _ _ _ _ _ _ _ _ e => e.elim, fun _ _ _ _ _ _ _ _ e => e.elim, fun cls dA z ρ' σ' st' H' K' g w' _ xr e => x cls dA z σ' H' K' g w' xr e⟩
    · exact Con.mk (cxC hp P w F mg base N qual (defScope st) f cdv A outer s K E) k _ true hp hr (fun e => by subst e; exact ⟨rfl, room_of hr (hA rfl)⟩) (fun p e => by subst e; exact ⟨hot p rfl, List.mem_singleton.mpr rfl⟩) (passes_of rfl) (L2N.takes_of rfl rfl rfl rfl) (fun _ _ => rfl) S.nd hG (fun _ => ⟨rfl, rfl, rfl⟩)
    · unfold startT L2.start
      rw [ra.length]
      exact renv_start ra _
theorem fnT_ok {P : Program} {w : World} {F : PySem.W.Frag} {mg : Str → Option Value} {base : Heap} {x qual : Str} {st : Stmt} {f : Addr} {fd : FuncData} {N ps : List Str} {k : Nat} {spec : TSpec} (Fn : Fun F x qual st f fd) (S : FnScope N ps (defScope st)) (len : ∀ ds σ Q E, spec ds σ Q E → ds.length = ps.length)
    (hb : ∀ (ds : List DT) (σ : Sg) (Q : DT → Sg → Prop) (E : TX) (Wx : WX), spec ds σ Q E → TBk (ctD P w F mg base N st k Wx) (defBody st) (startT N ds) σ { nx := fun _ σ' => Q .non σ', rt := Q, ex := fun cls x _ σ' => E cls x σ' }) : FnG P w F mg base (k + 1) f fd ps (spT F spec) := fnQ_ok Fn S len hb
theorem dtQ_ok {hp : HP} {P : Program} {w : World} {F : PySem.W.Frag} {mg : Str → Option Value} {base : Heap} {x : Str} {st : Stmt} {N ps : List Str} {k : Nat} {spec : TSpec} (d : DfN F mg x ps st) (S : FnScope N ps (defScope st)) (len : ∀ ds σ Q E, spec ds σ Q E → ds.length = ps.length)
    (hb : ∀ (ds : List DT) (σ : Sg) (Q : DT → Sg → Prop) (E : TX) (Wx : WX), spec ds σ Q E → TBk (ctQ hp P w F mg base N st k Wx) (defBody st) (startT N ds) σ { nx := fun _ σ' => Q .non σ', rt := Q, ex := fun cls x _ σ' => E cls x σ' }) : DtQ hp P w F mg base x ps (k + 1) spec := by
  obtain ⟨f, fd, h1, h2, h3⟩ := d
  exact ⟨f, fd, h1, h2.kp, h3, fnQ_ok h2 S len hb⟩
theorem dt_ok {P : Program} {w : World} {F : PySem.W.Frag} {mg : Str → Option Value} {base : Heap} {x : Str} {st : Stmt} {N ps : List Str} {k : Nat} {spec : TSpec} (d : DfN F mg x ps st) (S : FnScope N ps (defScope st)) (len : ∀ ds σ Q E, spec ds σ Q E → ds.length = ps.length)
    (hb : ∀ (ds : List DT) (σ : Sg) (Q : DT → Sg → Prop) (E : TX) (Wx : WX), spec ds σ Q E → TBk (ctD P w F mg base N st k Wx) (defBody st) (startT N ds) σ { nx := fun _ σ' => Q .non σ', rt := Q, ex := fun cls x _ σ' => E cls x σ' }) : Dt P w F mg base x ps (k + 1) spec := dtQ_ok d S len hb
end Y

/-! Y5: operations by values. -/
namespace Y
open PySem PySem.Spec L2 SX Z
open PyProof.Rows (subscriptTail)
/-! ### what reads as a list, a tuple, a dict -/
def LsX (σ : Sg) (x : DT) (ds : List DT) : Prop := x = .lst ds ∨ ∃ p, x = .ref p ∧ σ p = some (.lst ds)
def LsT (σ : Sg) (x : DT) (ds : List DT) : Prop := LsX σ x ds ∨ x = .seq ds
def DiT (σ : Sg) (x : DT) (kvs : List (DK × DT)) : Prop := x = .dct kvs ∨ ∃ p, x = .ref p ∧ σ p = some (.dct kvs)
theorem lsX_l {σ : Sg} {ds : List DT} : LsX σ (.lst ds) ds := .inl rfl
theorem lsX_c {σ : Sg} {p : Addr} {ds : List DT} (h : σ p = some (.lst ds)) : LsX σ (.ref p) ds := .inr ⟨p, rfl, h⟩
theorem lsT_l {σ : Sg} {ds : List DT} : LsT σ (.lst ds) ds := .inl (.inl rfl)
theorem lsT_s {σ : Sg} {ds : List DT} : LsT σ (.seq ds) ds := .inr rfl
theorem lsT_c {σ : Sg} {p : Addr} {ds : List DT} (h : σ p = some (.lst ds)) : LsT σ (.ref p) ds := .inl (.inr ⟨p, rfl, h⟩)
theorem diT_l {σ : Sg} {ds : List (DK × DT)} : DiT σ (.dct ds) ds := .inl rfl
theorem diT_c {σ : Sg} {p : Addr} {ds : List (DK × DT)} (h : σ p = some (.dct ds)) : DiT σ (.ref p) ds := .inr ⟨p, rfl, h⟩
section
variable {F : PySem.W.Frag} {H K : Hp} {σ : Sg} {v : V} {x : DT} {ds : List DT}
theorem LsX.now (l : LsX σ x ds) (w : Wd F H σ K) (r : Rep F H v x) : ∃ a vs, v = .ref a ∧ K a = some (.lst vs) ∧ RepA F H vs ds := by
  rcases l with rfl | ⟨p, rfl, h⟩
  · cases r with
    | lst hs ra => exact ⟨_, _, rfl, w.le _ _ hs, ra⟩
  · cases r
    obtain ⟨vs, e, ra⟩ := w.on p _ h
    exact ⟨p, vs, rfl, e, ra⟩
theorem LsT.now (l : LsT σ x ds) (w : Wd F H σ K) (r : Rep F H v x) : ∃ a vs, v = .ref a ∧ SqL F K a vs ∧ RepA F H vs ds := by
  rcases l with l | rfl
  · obtain ⟨a, vs, e, h, ra⟩ := l.now w r
    exact ⟨a, vs, e, SqL.of h, ra⟩
  · cases r with
    | seq hs ra => exact ⟨_, _, rfl, same_sql w.le hs, ra⟩
theorem rep_tup (w : Wd F H σ K) (r : Rep F H v (.tup ds)) : ∃ a vs, v = .ref a ∧ SqT F K a vs ∧ RepA F H vs ds := by
  cases r with
  | tup hs ra => exact ⟨_, _, rfl, same_sqt w.le hs, ra⟩
theorem DiT.now {kvs : List (DK × DT)} (l : DiT σ x kvs) (w : Wd F H σ K) (r : Rep F H v x) : ∃ a vs, v = .ref a ∧ L2.Rd K a (.dK vs) ∧ RepK F H vs kvs := by
  rcases l with rfl | ⟨p, rfl, h⟩
  · cases r with
    | dct hs ra => exact ⟨_, _, rfl, .inr ⟨_, w.le _ _ hs⟩, ra⟩
  · cases r
    obtain ⟨vs, e, ra⟩ := w.on p _ h
    exact ⟨p, vs, rfl, .inl e, ra⟩
end
section
variable {c : Ct} {σ : Sg} {i j : Int} {a b l : List Nat} {x y d : DT} {xs ys ds : List DT} {p q : Addr} {P : DT → Sg → Prop}
/-! ### ints -/
theorem po_addI : PO2 c (binaryOp .Add) (.int i) (.int j) σ (.int (i + j)) := ⟨fun X hX H K w v u rv ru Q k => by cases rv; cases ru; exact cO_of op_add ⟨i, j, rfl, rfl, k _ H K Gw.refl w (.int _)⟩⟩
theorem po_subI : PO2 c (binaryOp .Sub) (.int i) (.int j) σ (.int (i - j)) := ⟨fun X hX H K w v u rv ru Q k => by cases rv; cases ru; exact cO_of op_sub ⟨i, j, rfl, rfl, k _ H K Gw.refl w (.int _)⟩⟩
theorem po_mulI (h : CMulW i j) : PO2 c (binaryOp .Mult) (.int i) (.int j) σ (.int (i * j)) := ⟨fun X hX H K w v u rv ru Q k => by cases rv; cases ru; exact cO_of op_mulW ⟨i, j, rfl, rfl, h, k _ H K Gw.refl w (.int _)⟩⟩
theorem po_modI (h : 0 < j) : PO2 c (binaryOp .Mod) (.int i) (.int j) σ (.int (i % j)) := ⟨fun X hX H K w v u rv ru Q k => by cases rv; cases ru; exact cO_of op_mod ⟨i, j, rfl, rfl, h, k _ H K Gw.refl w (.int _)⟩⟩
theorem po_divI (h : CDivW i j) : PO2 c (binaryOp .FloorDiv) (.int i) (.int j) σ (.int (i / j)) := ⟨fun X hX H K w v u rv ru Q k => by cases rv; cases ru; exact cO_of op_fdivW ⟨i, j, rfl, rfl, h, k _ H K Gw.refl w (.int _)⟩⟩
theorem po_powI (h : CPow i j) : PO2 c (binaryOp .Pow) (.int i) (.int j) σ (.int (i ^ j.toNat)) := ⟨fun X hX H K w v u rv ru Q k => by cases rv; cases ru; exact cO_of op_pow ⟨i, j, rfl, rfl, h, k _ H K Gw.refl w (.int _)⟩⟩
theorem po_ltI : PO2 c (compareOp .Lt) (.int i) (.int j) σ (.bl (decide (i < j))) := ⟨fun X hX H K w v u rv ru Q k => by cases rv; cases ru; exact cO_of op_lt ⟨i, j, rfl, rfl, k _ H K Gw.refl w (.bl _)⟩⟩
theorem po_leI : PO2 c (compareOp .LtE) (.int i) (.int j) σ (.bl (decide (i ≤ j))) := ⟨fun X hX H K w v u rv ru Q k => by cases rv; cases ru; exact cO_of op_le ⟨i, j, rfl, rfl, k _ H K Gw.refl w (.bl _)⟩⟩
theorem po_gtI : PO2 c (compareOp .Gt) (.int i) (.int j) σ (.bl (decide (j < i))) := ⟨fun X hX H K w v u rv ru Q k => by cases rv; cases ru; exact cO_of op_gt ⟨i, j, rfl, rfl, k _ H K Gw.refl w (.bl _)⟩⟩
theorem po_geI : PO2 c (compareOp .GtE) (.int i) (.int j) σ (.bl (decide (j ≤ i))) := ⟨fun X hX H K w v u rv ru Q k => by cases rv; cases ru; exact cO_of op_ge ⟨i, j, rfl, rfl, k _ H K Gw.refl w (.bl _)⟩⟩
theorem po_iaddI : PO2 c (inplaceOp .Add) (.int i) (.int j) σ (.int (i + j)) := ⟨fun X hX H K w v u rv ru Q k => by cases rv; cases ru; exact cO_of iop_add ⟨i, j, rfl, rfl, k _ H K Gw.refl w (.int _)⟩⟩
theorem po_isubI : PO2 c (inplaceOp .Sub) (.int i) (.int j) σ (.int (i - j)) := ⟨fun X hX H K w v u rv ru Q k => by cases rv; cases ru; exact cO_of iop_sub ⟨i, j, rfl, rfl, k _ H K Gw.refl w (.int _)⟩⟩
theorem po_negI : PO1 c (unaryOp .USub) (.int i) σ (.int (-i)) := ⟨fun X hX H K w v rv Q k => by cases rv; exact cU_of un_neg ⟨i, rfl, k _ H K Gw.refl w (.int _)⟩⟩
/-! ### ==, !=, is -/
theorem po_eqI : PO2 c (compareOp .Eq) (.int i) (.int j) σ (.bl (decide (i = j))) := ⟨fun X hX H K w v u rv ru Q k => by
  cases rv; cases ru
  exact cO_of op_eq ⟨rfl, k _ H K Gw.refl w (dec_I (i := i) (j := j) ▸ .bl _)⟩⟩
theorem po_neI : PO2 c (compareOp .NotEq) (.int i) (.int j) σ (.bl (!decide (i = j))) := ⟨fun X hX H K w v u rv ru Q k => by
  cases rv; cases ru
  exact cO_of op_ne ⟨rfl, k _ H K Gw.refl w (dec_I (i := i) (j := j) ▸ .bl _)⟩⟩
theorem po_eqS : PO2 c (compareOp .Eq) (.str a) (.str b) σ (.bl (decide (a = b))) := ⟨fun X hX H K w v u rv ru Q k => by
  cases rv; cases ru
  exact cO_of op_eq ⟨rfl, k _ H K Gw.refl w (dec_S (a := a) (b := b) ▸ .bl _)⟩⟩
theorem po_neS : PO2 c (compareOp .NotEq) (.str a) (.str b) σ (.bl (!decide (a = b))) := ⟨fun X hX H K w v u rv ru Q k => by
  cases rv; cases ru
  exact cO_of op_ne ⟨rfl, k _ H K Gw.refl w (dec_S (a := a) (b := b) ▸ .bl _)⟩⟩
def isNon : DT → Bool
  | .non => true
  | _ => false
theorem rep_non {F : PySem.W.Frag} {H : Hp} {v : V} {d : DT} (r : Rep F H v d) : decide (v = .non) = isNon d := by
  cases r <;> rfl
theorem po_isN : PO2 c (compareOp .Is) x .non σ (.bl (isNon x)) := ⟨fun X hX H K w v u rv ru Q k => by
  cases ru
  exact cO_of op_isN ⟨rfl, k _ H K Gw.refl w (rep_non rv ▸ .bl _)⟩⟩
theorem po_notN : PO2 c (compareOp .IsNot) x .non σ (.bl (!isNon x)) := ⟨fun X hX H K w v u rv ru Q k => by
  cases ru
  exact cO_of op_notN ⟨rfl, k _ H K Gw.refl w (rep_non rv ▸ .bl _)⟩⟩
theorem po_isB {a b : Bool} : PO2 c (compareOp .Is) (.bl a) (.bl b) σ (.bl (decide (a = b))) := ⟨fun X hX H K w v u rv ru Q k => by
  cases rv; cases ru
  exact cO_of op_isBl ⟨a, b, rfl, rfl, k _ H K Gw.refl w (.bl _)⟩⟩
theorem po_notB {a b : Bool} : PO2 c (compareOp .IsNot) (.bl a) (.bl b) σ (.bl (!decide (a = b))) := ⟨fun X hX H K w v u rv ru Q k => by
  cases rv; cases ru
  exact cO_of op_notBl ⟨a, b, rfl, rfl, k _ H K Gw.refl w (.bl _)⟩⟩
/-! ### texts -/
theorem po_addS (h : a.length + b.length ≤ 16777216) : PO2 c (binaryOp .Add) (.str a) (.str b) σ (.str (a ++ b)) := ⟨fun X hX H K w v u rv ru Q k => by
  cases rv; cases ru
  exact cO_of op_add_str ⟨S a, S b, rfl, rfl, by rw [S_len, S_len, sizeLine_eq]; exact h, by rw [S_cat]; exact k _ H K Gw.refl w (.str _)⟩⟩
theorem po_inS {z : Nat} : PO2 c (compareOp .In) (.str [z]) (.str b) σ (.bl (decide (z ∈ b))) := ⟨fun X hX H K w v u rv ru Q k => by
  cases rv; cases ru
  exact cO_of op_in_sign ⟨z, S b, rfl, rfl, k _ H K Gw.refl w (by rw [show decide (z ∈ (S b).cps.toList) = decide (z ∈ b) by simp [S]]; exact .bl _)⟩⟩
theorem po_ltS : PO2 c (compareOp .Lt) (.str a) (.str b) σ (.bl (decide (a < b))) := ⟨fun X hX H K w v u rv ru Q k => by
  cases rv; cases ru
  exact cO_of op_lt_str ⟨S a, S b, rfl, rfl, k _ H K Gw.refl w (by simp only [S]; exact .bl _)⟩⟩
theorem po_gtS : PO2 c (compareOp .Gt) (.str a) (.str b) σ (.bl (decide (b < a))) := ⟨fun X hX H K w v u rv ru Q k => by
  cases rv; cases ru
  exact cO_of op_gt_str ⟨S a, S b, rfl, rfl, k _ H K Gw.refl w (by simp only [S]; exact .bl _)⟩⟩
theorem po_mulS (h1 : -1000000 ≤ i) (h2 : i ≤ 1000000) (h : a.length * i.toNat ≤ 16777216) : PO2 c (binaryOp .Mult) (.str a) (.int i) σ (.str (List.replicate i.toNat a).flatten) := ⟨fun X hX H K w v u rv ru Q k => by
  cases rv; cases ru
  intro pins s st v u I rx ry
  obtain ⟨t, rfl⟩ := rx
  obtain ⟨t', rfl⟩ := ry
  refine SB.mul ⟨?_, fun h3 _ => ?_, fun h3 _ => ?_⟩ fun t2 k2 => ⟨.str _, K, I.tok k2, ⟨t2, rfl⟩, by rw [mul_S]; exact k _ H K Gw.refl w (.str _)⟩
  · rw [decide_eq_false (by omega), decide_eq_false (by omega)]
    rfl
  · rw [S_len]
    have e1 : (a.length : Int) * i ≤ 16777216 := by
      have : ((a.length * i.toNat : Nat) : Int) ≤ 16777216 := Int.ofNat_le.mpr h
      rw [Int.natCast_mul, Int.toNat_of_nonneg (by omega)] at this
      exact this
    have e2 : (a.length : Int) ≤ (2 ^ 63 - 1) / i := (Int.le_ediv_iff_mul_le (by omega)).mpr (by omega)
    omega
  · rw [S_len]
    show Builtin.Str.tooLong _ = false
    unfold Builtin.Str.tooLong
    exact decide_eq_false (by rw [sizeLine_eq]; omega)⟩
/-! ### lists -/
theorem po_cat (hx : LsX σ x xs) (hy : LsX σ y ys) (h : xs.length + ys.length ≤ 16777216) : PO2 c (binaryOp .Add) x y σ (.lst (xs ++ ys)) := ⟨fun X hX H K w v u rv ru Q k => by
  obtain ⟨a, vs, rfl, q1, r1⟩ := hx.now w rv
  obtain ⟨b, us, rfl, q2, r2⟩ := hy.now w ru
  refine cO_of op_cat ⟨a, b, vs, us, rfl, rfl, q1, q2, by rw [r1.length, r2.length, sizeLine_eq]; exact h, fun p hp => ?_⟩
  obtain ⟨g, w2⟩ := w.new (o := .lst (vs ++ us)) hp
  exact k _ _ _ g w2 (.lst upd_same ((r1.append r2).same g.b))⟩
theorem po_rep (hx : LsX σ x xs) (h1 : -1000000 ≤ i) (h2 : i ≤ 1000000) (h : xs.length * i.toNat ≤ 16777216) : PO2 c (binaryOp .Mult) x (.int i) σ (.lst (List.replicate i.toNat xs).flatten) := ⟨fun X hX H K w v u rv ru Q k => by
  obtain ⟨a, vs, rfl, q1, r1⟩ := hx.now w rv
  cases ru
  refine cO_of op_rep ⟨a, i, vs, rfl, rfl, q1, by omega, by omega, by rw [r1.length, sizeLine_eq]; exact h, fun p hp => ?_⟩
  obtain ⟨g, w2⟩ := w.new (o := .lst (List.replicate i.toNat vs).flatten) hp
  exact k _ _ _ g w2 (.lst upd_same ((r1.rep _).same g.b))⟩
/-! ### subscripts, slices -/
theorem rep_at {F : PySem.W.Frag} {H : Hp} {vs : List V} {ds : List DT} (r : RepA F H vs ds) {i : Int} {d : DT} (h : atI ds i = some d) : ∃ u, atI vs i = some u ∧ Rep F H u d := by
  unfold atI at h ⊢
  rw [r.length]
  cases e : ixN ds.length i with
  | none => rw [e] at h; cases h
  | some j =>
    rw [e] at h
    obtain ⟨u, h1, h2⟩ := r.get (i := j) h
    exact ⟨u, h1, h2⟩
theorem pi_lst (hx : LsT σ x xs) (h : atI xs i = some d) : POI c x (.int i) σ d := ⟨fun X hX H K w v u rv ru Q k => by
  have hX' := hX
  cases hX'
  obtain ⟨a, vs, rfl, q1, r1⟩ := hx.now w rv
  cases ru
  obtain ⟨z, h1, h2⟩ := rep_at r1 h
  exact cI_of ix_list ⟨a, vs, i, z, rfl, rfl, q1, h1, k _ H K Gw.refl w h2⟩⟩
theorem pi_tup (h : atI xs i = some d) : POI c (.tup xs) (.int i) σ d := ⟨fun X hX H K w v u rv ru Q k => by
  have hX' := hX
  cases hX'
  obtain ⟨a, vs, rfl, q1, r1⟩ := rep_tup w rv
  cases ru
  obtain ⟨z, h1, h2⟩ := rep_at r1 h
  exact cI_of ix_tup ⟨a, vs, i, z, rfl, rfl, q1, h1, k _ H K Gw.refl w h2⟩⟩
theorem pi_str {z : Nat} (hz : a.length ≤ 16777216) (h : atI a i = some z) : POI c (.str a) (.int i) σ (.str [z]) := ⟨fun X hX H K w v u rv ru Q k => by
  cases rv; cases ru
  exact cI_of ix_str ⟨S a, i, z, rfl, rfl, by rw [S_len, sizeLine_eq]; exact hz, by simpa [S] using h, k _ H K Gw.refl w (.str [z])⟩⟩
def cutT (xs : List DT) (lo hi : Option Int) : List DT := (xs.drop (HT.sIx xs.length 0 lo)).take (HT.sIx xs.length xs.length hi - HT.sIx xs.length 0 lo)
theorem rep_cut {F : PySem.W.Frag} {H : Hp} {vs : List V} {ds : List DT} (r : RepA F H vs ds) (lo hi : Option Int) : RepA F H (cutV vs lo hi) (cutT ds lo hi) := by
  unfold cutV cutT
  rw [r.length]
  exact (r.drop _).take _
theorem pl_lst {lo hi : Option Int} (hx : LsT σ x xs) : POL c x lo hi σ (.lst (cutT xs lo hi)) := ⟨fun X hX H K w v rv Q k => by
  have hX' := hX
  cases hX'
  obtain ⟨a, vs, rfl, q1, r1⟩ := hx.now w rv
  refine cL_of sl_list ⟨a, vs, rfl, q1, fun p hp => ?_⟩
  obtain ⟨g, w2⟩ := w.new (o := .lst (cutV vs lo hi)) hp
  exact k _ _ _ g w2 (.lst upd_same ((rep_cut r1 lo hi).same g.b))⟩
theorem pl_tup {lo hi : Option Int} (hw : ¬ (HT.sIx xs.length 0 lo = 0 ∧ HT.sIx xs.length xs.length hi = xs.length)) : POL c (.tup xs) lo hi σ (.tup (cutT xs lo hi)) := ⟨fun X hX H K w v rv Q k => by
  have hX' := hX
  cases hX'
  obtain ⟨a, vs, rfl, q1, r1⟩ := rep_tup w rv
  refine cL_of sl_tup ⟨a, vs, rfl, q1, by rw [r1.length]; exact hw, fun p hp => ?_⟩
  obtain ⟨g, w2⟩ := w.new (o := .tup (cutV vs lo hi)) hp
  exact k _ _ _ g w2 (.tup (SqT.of upd_same) ((rep_cut r1 lo hi).same g.b))⟩
theorem pl_str {lo hi : Option Int} (hz : a.length ≤ 16777216) : POL c (.str a) lo hi σ (.str (cutN a lo hi)) := ⟨fun X hX H K w v rv Q k => by
  cases rv
  exact cL_of sl_str ⟨S a, rfl, by rw [S_len, sizeLine_eq]; exact hz, by rw [cutS_S]; exact k _ H K Gw.refl w (.str _)⟩⟩
/-! ### built-in functions -/
theorem repA_one {F : PySem.W.Frag} {H : Hp} {vs : List V} {x : DT} (r : RepA F H vs [x]) : ∃ v, vs = [v] ∧ Rep F H v x := by
  cases r with
  | cons h t => cases t; exact ⟨_, rfl, h⟩
theorem repA_two {F : PySem.W.Frag} {H : Hp} {vs : List V} {x y : DT} (r : RepA F H vs [x, y]) : ∃ v u, vs = [v, u] ∧ Rep F H v x ∧ Rep F H u y := by
  cases r with
  | cons h t =>
    obtain ⟨u, rfl, h2⟩ := repA_one t
    exact ⟨_, u, rfl, h, h2⟩
theorem pf_lenS (hz : a.length ≤ 16777216) : POF c (.builtin "len") [.str a] σ (.int (a.length : Int)) := ⟨fun X hX H K w vs r Q k => by
  obtain ⟨v, rfl, rv⟩ := repA_one r
  cases rv
  exact cF_of call_len_str ⟨S a, rfl, by rw [S_len, sizeLine_eq]; exact hz, by rw [S_len]; exact k _ H K Gw.refl w (.int _)⟩⟩
theorem pf_lenL (hx : LsT σ x xs) : POF c (.builtin "len") [x] σ (.int (xs.length : Int)) := ⟨fun X hX H K w vs r Q k => by
  have hX' := hX
  cases hX'
  obtain ⟨v, rfl, rv⟩ := repA_one r
  obtain ⟨a, vs, rfl, q1, r1⟩ := hx.now w rv
  exact cF_of call_len_seq ⟨a, vs, rfl, .inl q1, k _ H K Gw.refl w (r1.length ▸ .int _)⟩⟩
theorem pf_lenT : POF c (.builtin "len") [.tup xs] σ (.int (xs.length : Int)) := ⟨fun X hX H K w vs r Q k => by
  have hX' := hX
  cases hX'
  obtain ⟨v, rfl, rv⟩ := repA_one r
  obtain ⟨a, vs, rfl, q1, r1⟩ := rep_tup w rv
  exact cF_of call_len_seq ⟨a, vs, rfl, .inr q1, k _ H K Gw.refl w (r1.length ▸ .int _)⟩⟩
theorem pf_min2 [Calm c] : POF c (.builtin "min") [.int i, .int j] σ (.int (min i j)) := ⟨fun X hX H K w vs r Q k => by
  obtain ⟨v, u, rfl, rv, ru⟩ := repA_two r
  cases rv; cases ru
  cases hX with
  | mk _ k' Wx fa hpp hrH hcf hh hp' htk hf' hN hU hst =>
    obtain rfl : hpp = none := ‹Calm _›.h
    obtain ⟨hc, hr⟩ := hcf rfl
    refine cF_of (call_min2 hc) ⟨i, j, rfl, k _ H K Gw.refl w ?_⟩
    by_cases hlt : j < i
    · rw [if_pos hlt, show min i j = j by omega]; exact .int _
    · rw [if_neg hlt, show min i j = i by omega]; exact .int _⟩
theorem pf_max2 [Calm c] : POF c (.builtin "max") [.int i, .int j] σ (.int (max i j)) := ⟨fun X hX H K w vs r Q k => by
  obtain ⟨v, u, rfl, rv, ru⟩ := repA_two r
  cases rv; cases ru
  cases hX with
  | mk _ k' Wx fa hpp hrH hcf hh hp' htk hf' hN hU hst =>
    obtain rfl : hpp = none := ‹Calm _›.h
    obtain ⟨hc, hr⟩ := hcf rfl
    refine cF_of (call_max2 hc) ⟨i, j, rfl, k _ H K Gw.refl w ?_⟩
    by_cases hlt : j > i
    · rw [if_pos hlt, show max i j = j by omega]; exact .int _
    · rw [if_neg hlt, show max i j = i by omega]; exact .int _⟩
theorem repA_map {F : PySem.W.Frag} {H : Hp} {α : Type} (f : α → V) (g : α → DT) (hf : ∀ a u, Rep F H u (g a) → u = f a) : ∀ {l : List α} {vs : List V}, RepA F H vs (l.map g) → vs = l.map f
  | [], _, .nil => rfl
  | a :: l, _, .cons h t => by rw [hf a _ h, repA_map f g hf t]; rfl
theorem repA_of {F : PySem.W.Frag} {H : Hp} {α : Type} (f : α → V) (g : α → DT) (hf : ∀ a, Rep F H (f a) (g a)) : ∀ l : List α, RepA F H (l.map f) (l.map g)
  | [] => .nil
  | a :: l => .cons (hf a) (repA_of f g hf l)
theorem repA_ints {F : PySem.W.Frag} {H : Hp} {ns : List Int} {vs : List V} (r : RepA F H vs (ns.map DT.int)) : vs = ns.map V.int := repA_map V.int DT.int (fun a u h => by cases h; rfl) r
theorem repA_bls {F : PySem.W.Frag} {H : Hp} {ns : List Bool} {vs : List V} (r : RepA F H vs (ns.map DT.bl)) : vs = ns.map V.bl := repA_map V.bl DT.bl (fun a u h => by cases h; rfl) r
theorem repA_strs {F : PySem.W.Frag} {H : Hp} {ns : List (List Nat)} {vs : List V} (r : RepA F H vs (ns.map DT.str)) : vs = ns.map fun z => V.str (S z) := repA_map _ DT.str (fun a u h => by cases h; rfl) r
theorem pf_all [Calm c] {bs : List Bool} (hx : LsT σ x (bs.map DT.bl)) : POF c (.builtin "all") [x] σ (.bl (bs.all id)) := ⟨fun X hX H K w vs r Q k => by
  have hX' := hX
  cases hX' with
  | mk _ k' Wx fa hpp hrH hcf hh hp' htk hf' hN hU hst =>
    obtain rfl : hpp = none := ‹Calm _›.h
    obtain ⟨hc, hr⟩ := hcf rfl
    obtain ⟨v, rfl, rv⟩ := repA_one r
    obtain ⟨a, vs, rfl, q1, r1⟩ := hx.now w rv
    rw [repA_bls r1] at q1
    exact cF_of (cr_all hc) ⟨a, bs, rfl, q1, k _ H K Gw.refl w (.bl _)⟩⟩
theorem pf_sum [Calm c] {ns : List Int} (hx : LsT σ x (ns.map DT.int)) : POF c (.builtin "sum") [x] σ (.int ns.sum) := ⟨fun X hX H K w vs r Q k => by
  have hX' := hX
  cases hX' with
  | mk _ k' Wx fa hpp hrH hcf hh hp' htk hf' hN hU hst =>
    obtain rfl : hpp = none := ‹Calm _›.h
    obtain ⟨hc, hr⟩ := hcf rfl
    obtain ⟨v, rfl, rv⟩ := repA_one r
    obtain ⟨a, vs, rfl, q1, r1⟩ := hx.now w rv
    rw [repA_ints r1] at q1
    exact cF_of (cr_sum hc) ⟨a, ns, rfl, q1, k _ H K Gw.refl w (.int _)⟩⟩
theorem pf_intB {b : Bool} : POF c (.type "int") [.bl b] σ (.int (if b then 1 else 0)) := ⟨fun X hX H K w vs r Q k => by
  obtain ⟨v, rfl, rv⟩ := repA_one r
  cases rv
  exact cF_of call_int1 (.inr ⟨b, rfl, k _ H K Gw.refl w (.int _)⟩)⟩
theorem pf_listL (hx : LsT σ x xs) : POF c (.type "list") [x] σ (.lst xs) := ⟨fun X hX H K w vs r Q k => by
  have hX' := hX
  cases hX'
  obtain ⟨v, rfl, rv⟩ := repA_one r
  obtain ⟨a, vs, rfl, q1, r1⟩ := hx.now w rv
  refine cF_of call_list_of ⟨a, vs, rfl, .inl q1, fun p hp => ?_⟩
  obtain ⟨g, w2⟩ := w.new (o := .lst vs) hp
  exact k _ _ _ g w2 (.lst upd_same (r1.same g.b))⟩
theorem pf_listT : POF c (.type "list") [.tup xs] σ (.lst xs) := ⟨fun X hX H K w vs r Q k => by
  have hX' := hX
  cases hX'
  obtain ⟨v, rfl, rv⟩ := repA_one r
  obtain ⟨a, vs, rfl, q1, r1⟩ := rep_tup w rv
  refine cF_of call_list_of ⟨a, vs, rfl, .inr q1, fun p hp => ?_⟩
  obtain ⟨g, w2⟩ := w.new (o := .lst vs) hp
  exact k _ _ _ g w2 (.lst upd_same (r1.same g.b))⟩
/-- what a value's class is -/
def tyT (σ : Sg) : DT → Option String
  | .non => some "NoneType"
  | .bl _ => some "bool"
  | .int _ => some "int"
  | .str _ => some "str"
  | .lst _ => some "list"
  | .tup _ => some "tuple"
  | .dct _ => some "dict"
  | .ref p => match σ p with | some (.lst _) => some "list" | some (.dct _) => some "dict" | _ => none
  | _ => none
theorem tyT_x {F : PySem.W.Frag} {H K : Hp} {v : V} {t : String} (w : Wd F H σ K) (r : Rep F H v x) (h : tyT σ x = some t) : TyX F K v (.type t) := by
  cases r with
  | non => cases h; exact .base .non
  | bl b => cases h; exact .base (.bl b)
  | int i => cases h; exact .base (.int i)
  | str s => cases h; exact .base (.str _)
  | lst e _ => cases h; exact .base (.lst (w.le _ _ e))
  | seq => cases h
  | tup e _ =>
    cases h
    rcases same_sqt w.le e with (z | ⟨o, z⟩) | ⟨o, xs, n, z, hc, _⟩
    · exact .base (.tup z)
    · exact .fTuple z
    · exact .kTuple z hc
  | dct e _ => cases h; exact .fDict (w.le _ _ e)
  | obj => cases h
  | ref p =>
    unfold tyT at h
    cases e : σ p with
    | none => simp [e] at h
    | some cc =>
      simp only [e] at h
      cases cc with
      | lst ds =>
        cases h
        obtain ⟨vs, e2, _⟩ := w.on p _ e
        exact .base (.lst e2)
      | dct ds =>
        cases h
        obtain ⟨vs, e2, _⟩ := w.on p _ e
        exact .base (.dK e2)
      | obj C fs => cases h
  | ty n => cases h
  | exc0 e => cases h
  | exc1 e e2 _ => cases h
  | hot0 => cases h
  | hot1 => cases h
theorem pf_isi {t u : String} {r : Bool} (h : tyT σ x = some t) (e : kitB t u = some r) : POF c (.builtin "isinstance") [x, .ty u] σ (.bl r) := ⟨fun X hX H K w vs ra Q k => by
  have hX' := hX
  cases hX'
  obtain ⟨v, u2, rfl, rv, ru⟩ := repA_two ra
  cases ru
  exact cF_of call_isi ⟨v, .ty u, .type t, .type u, r, rfl, .ty u, tyT_x w rv h, kit_ty e, k _ H K Gw.refl w (.bl _)⟩⟩
/-! ### methods -/
theorem ty_str : TyIs c "str" σ (.str a) := fun X hX H K w x rx pins st s v I r => by
  cases rx
  obtain ⟨t, rfl⟩ := r
  exact ⟨typeIs_str s _ t, fun _ e => nomatch e⟩
theorem ty_lst (hx : LsT σ x xs) : TyIs c "list" σ x := fun X hX H K w v rx pins st s u I r => by
  have hX' := hX
  cases hX'
  obtain ⟨a, vs, rfl, q1, r1⟩ := hx.now w rx
  exact tyV_is I r (.inl ⟨rfl, vs, q1⟩)
theorem ty_dct {kvs : List (DK × DT)} (hx : DiT σ x kvs) : TyIs c "dict" σ x := fun X hX H K w v rx pins st s u I r => by
  obtain ⟨a, vs, rfl, q1, r1⟩ := hx.now w rx
  cases r
  have ok := q1.ok I.hok
  obtain ⟨_, _, _, _, o, _, _, e, ex, _⟩ := ok
  exact ⟨⟨o, e, ex.1⟩, fun a e2 => by cases e2; exact ⟨o, e, ex.2.1⟩⟩
theorem pm_join {parts : List (List Nat)} (hx : LsT σ x (parts.map DT.str)) (hz : (parts.map (·.length)).sum + parts.length * a.length ≤ 16777216) : POM c "str.join" (.str a) [x] σ (.str (TL.joinL a parts)) := ⟨fun {Q} q => ⟨fun X hX H K w v vs rv ra Q' fo => by
  have hX' := hX
  cases hX'
  cases rv
  obtain ⟨u, rfl, ru⟩ := repA_one ra
  obtain ⟨b, us, rfl, q1, r1⟩ := hx.now w ru
  rw [repA_strs r1] at q1
  have e1 : (parts.map fun z => V.str (S z)) = (parts.map S).map V.str := by rw [List.map_map]; rfl
  rw [e1] at q1
  refine cM_of mt_join ⟨S a, b, parts.map S, rfl, rfl, .inl q1, ?_, ?_⟩
  · rw [lens, List.length_map, S_len]
    exact hz
  · rw [join_S]
    exact fo _ _ σ H K Gw.refl w (.str _) q⟩⟩
theorem pm_strip (hz : a.length ≤ 16777216) : POM c "str.strip" (.str a) [.str b] σ (.str (Txt.stripChars (S a) (S b)).cps.toList) := ⟨fun {Q} q => ⟨fun X hX H K w v vs rv ra Q' fo => by
  cases rv
  obtain ⟨u, rfl, ru⟩ := repA_one ra
  cases ru
  refine cM_of mt_stripChars ⟨S a, S b, rfl, rfl, by rw [S_len, sizeLine_eq]; exact hz, fo _ _ σ H K Gw.refl w ?_ q⟩
  have := Rep.str (F := c.K) (H := H) (Txt.stripChars (S a) (S b)).cps.toList
  rwa [S_tl] at this⟩⟩
theorem tm_append (h : σ p = some (.lst xs)) (hl : xs.length < 16777216) (q : P .non (su σ p (.lst (xs ++ [d])))) : TOM c "list.append" (.ref p) [d] σ P := ⟨fun X hX H K w v vs rv ra Q' fo => by
  cases rv
  obtain ⟨u, rfl, ru⟩ := repA_one ra
  obtain ⟨us, e, r1⟩ := w.on p _ h
  refine cM_of mt_append ⟨p, us, u, rfl, rfl, e, by rw [r1.length, sizeLine_eq]; exact hl, ?_⟩
  exact fo _ _ _ H _ (Gw.write h) (w.write h (c' := .lst (xs ++ [d])) ⟨_, upd_same, r1.append (.cons ru .nil)⟩) .non q⟩
theorem RepA.dropLast {F : PySem.W.Frag} {H : Hp} : ∀ {v : List V} {d : List DT}, RepA F H v d → RepA F H v.dropLast d.dropLast
  | _, _, .nil => .nil
  | _, _, .cons _ .nil => .nil
  | _, _, .cons h (.cons h2 t) => .cons h (RepA.dropLast (.cons h2 t))
theorem tm_pop (h : σ p = some (.lst xs)) (hd : xs[xs.length - 1]? = some d) (q : P d (su σ p (.lst xs.dropLast))) : TOM c "list.pop" (.ref p) [] σ P := ⟨fun X hX H K w v vs rv ra Q' fo => by
  cases rv
  cases ra
  obtain ⟨us, e, r1⟩ := w.on p _ h
  obtain ⟨u, h1, h2⟩ := r1.get hd
  refine cM_of mt_pop ⟨p, us, u, rfl, rfl, e, by rw [r1.length]; exact h1, ?_⟩
  exact fo _ _ _ H _ (Gw.write h) (w.write h (c' := .lst xs.dropLast) ⟨_, upd_same, r1.dropLast⟩) h2 q⟩
end
end Y

namespace Y
open PySem PySem.Spec PyProof.Rows L2 Z
/-- what the caller of the law is told at the end -/
abbrev LawEnd (s1 : Shared) : Result → Shared → Prop := fun r s2 => r = .ok (.ret (.bool true)) ∧ OldK s1.heap s2.heap ∧ s2.os = s1.os ∧ AllBare s2.gens
section
variable {P : Program} {w : World} {F : PySem.W.Frag} {mg mb : Str → Option Value} {k : Nat} {fa a : Addr} {fd : FuncData} {x : Str} {sp : Sp} {s1 : Shared} {vs : List Value} {ns : List Int} {H : Hp}
/-- the law's promise at a heap in which the script alone may be tracked -/
theorem law_in (smm : ∃ mm, s1.heap.Ns sysModules mm) (inn : F.In s1.heap) (hns : s1.heap.Ns mainGlobals mg) (hb : s1.heap.Ns builtinsNs mb) (hbb : ∀ x : Str, x ≠ "__name__" → mb x = bootBuiltins x) (lim : s1.heap.NoLimit) (bare : s1.gens = #[])
    (ha : s1.heap.get? a = some { cls := .type "list", data := .seq vs.toArray }) (hr : Room k callerA) (G : ∀ base : Heap, F.In base → base.Ns mainGlobals mg → (∃ ob, base.get? sysModules = some ob) → FnG P w F mg base k fa fd [x] sp)
    (hbind : ∀ (s : Shared) (u : Value), BindsTo s fd ⟨[u], []⟩ [(x, u)]) (hsp : sp [.ref a] H (fun v _ => v = .bl true) fun _ _ _ => False)
    (only : Only H) (hok : HOk P w H s1.heap) (one : ∀ b, H b ≠ none → b = a) (notF : H a ≠ none → F.lookup a = none) : codeAny (model P w) callerA (.call (.ref fa) ⟨[.ref a], []⟩) (LawEnd s1) s1 := by
  have away : ∀ {b : Addr} {o : Obj}, s1.heap.get? b = some o → o.data ≠ .seq vs.toArray → H b = none := fun {b o} e d => by
    cases q : H b with
    | none => rfl
    | some u =>
      obtain rfl := one b (by rw [q]; exact Option.some_ne_none _)
      rw [ha] at e
      cases e
      exact absurd rfl d
  have names : ∀ {b : Addr} {m : Str → Option Value}, s1.heap.Ns b m → (hidT s1.heap H).Ns b m := fun {b m} h => by
    obtain ⟨o, es, ep, e, d, r⟩ := h
    exact ⟨o, es, ep, hidT_get e (away e (by rw [d]; exact fun z => nomatch z)), d, r⟩
  have innB : F.In (hidT s1.heap H) := fun b o e => hidT_get (inn b o e) (by
    cases q : H b with
    | none => rfl
    | some u =>
      have ne : H b ≠ none := by rw [q]; exact Option.some_ne_none _
      obtain rfl := one b ne
      rw [notF ne] at e
      cases e)
  obtain ⟨mc, l1, l2⟩ := lim
  have e0 : Env0 P w F mg (hidT s1.heap H) callerA [] s1 H := ⟨rfl, ⟨innB, names hns, ⟨mb, names hb, hbb⟩, ⟨mc, names l1, l2⟩⟩, fun b o e => of_hidT e, Nat.le_of_eq (hidT_size _ _), trivial, fun b z => absurd z (List.not_mem_nil), hok, .of_eq bare⟩
  refine codeAny_mono ((G _ innB (names hns) (let ⟨_, q⟩ := smm; let ⟨o, _, _, e, _⟩ := names q; ⟨o, e⟩)).calm callerA hr rfl [] s1 H e0 ⟨[.ref a], []⟩ [.ref a] [.ref a] (.cons rfl .nil) (hbind s1 (.ref a)) _ _ hsp) fun r s2 z => ?_
  match r, z with
  | .error e, z =>
    obtain ⟨_, _, _, _, _, _, _, _, _, _, _, _, n⟩ := z
    exact n.elim
  | .ok .next, z => exact z.elim
  | .ok .brk, z => exact z.elim
  | .ok .cont, z => exact z.elim
  | .ok (.ret u), ⟨v, H2, e1, e2, un, ok2, r2, q2⟩ =>
    subst q2
    obtain rfl : u = Value.bool true := r2
    refine ⟨rfl, OldK.of_keep fun b o e => ?_, e1, e2⟩
    rcases only b with q | ⟨ob, xs, q⟩
    · exact un.keep b o e q (by intro z; exact absurd (show b ∈ ([] : List Addr) from z) List.not_mem_nil) (by simp)
    · have f1 := (hok b _ q).1
      rw [f1] at e
      cases e
      exact (ok2 b _ (un.frzs b _ _ q)).1
/-- the law's call -/
theorem law_run (smm : ∃ mm, s1.heap.Ns sysModules mm) (inn : F.In s1.heap) (hns : s1.heap.Ns mainGlobals mg) (hb : s1.heap.Ns builtinsNs mb) (hbb : ∀ x : Str, x ≠ "__name__" → mb x = bootBuiltins x) (lim : s1.heap.NoLimit) (bare : s1.gens = #[])
    (ha : s1.heap.get? a = some { cls := .type "list", data := .seq vs.toArray }) (hi : IntsAre vs ns) (hl : ns.length ≤ sizeLine) (hr : Room k callerA)
    (G : ∀ base : Heap, F.In base → base.Ns mainGlobals mg → (∃ ob, base.get? sysModules = some ob) → FnG P w F mg base k fa fd [x] sp) (hbind : ∀ (s : Shared) (u : Value), BindsTo s fd ⟨[u], []⟩ [(x, u)])
    (hsp : ∀ H : Hp, Only H → SqL F H a (ns.map V.int) → sp [.ref a] H (fun v _ => v = .bl true) fun _ _ _ => False) : codeAny (model P w) callerA (.call (.ref fa) ⟨[.ref a], []⟩) (LawEnd s1) s1 := by
  have rv := vals_ints hi
  cases hk : F.lookup a with
  | some o =>
    obtain rfl := Option.some.inj ((inn a o hk).symm.trans ha)
    have on : Only fun _ => none := fun _ => .inl rfl
    refine law_in (H := fun _ => none) smm inn hns hb hbb lim bare ha hr G hbind (hsp _ on (.inr ⟨_, vs.toArray, _, hk, rfl, rfl, rfl, ?_, by simpa using rv⟩)) on (fun _ _ z => nomatch z) (fun _ z => absurd rfl z) (fun z => absurd rfl z)
    rw [List.size_toArray, hi.length]
    exact hl
  | none =>
    let u : HO := .frz { cls := .type "list", data := .seq vs.toArray } (.lst (ns.map V.int))
    have at_a : (upd (fun _ => none) a u : Hp) a = some u := upd_same
    have off : ∀ b, b ≠ a → (upd (fun _ => none) a u : Hp) b = none := fun b z => upd_ne z
    have on : Only (upd (fun _ => none) a u) := fun b => by
      by_cases e : b = a
      · subst e
        exact .inr ⟨_, _, at_a⟩
      · exact .inl (off b e)
    refine law_in (H := upd (fun _ => none) a u) smm inn hns hb hbb lim bare ha hr G hbind (hsp _ on (.inl (.inr ⟨_, at_a⟩))) on (fun b q z => ?_) (fun b z => Decidable.byContradiction fun e => z (off b e)) (fun _ => hk)
    by_cases e : b = a
    · subst e
      rw [at_a] at z
      cases z
      exact ⟨ha, by rw [List.length_map]; exact hl, vs, _, rv, ha⟩
    · rw [off b e] at z
      cases z
end
/-- the goal that the head leaves, from the law's promise; the script's ints are of at most 1048576 bits -/
theorem walkG {l : PySem.W.OpenLaw} {n k : Nat} {q : Program} {loose : List Str} {XP : (Str → Option Value) → Heap → Prop} {YP : World → Heap → Prop} {d : DefRec} {K : Params → PySem.W.Frag} {sp : World → Sp} {x : Str}
    (hi : importsNone q = true) (hn : l.most = some n) (hn2 : n ≤ sizeLine) (hdf : d.params.defaults = []) (hr : Room k callerA) (hY : ∀ (w : World) (h : Heap), YP w h → (K w.params).In h)
    (G : ∀ (w : World) (mg : Str → Option Value) (fa : Addr) (h : Heap), (K w.params).In h → h.Ns mainGlobals mg → mg d.name = some (.ref fa) →
      ∃ fd : FuncData, (∀ (s : Shared) (u : Value), BindsTo s fd ⟨[u], []⟩ [(x, u)]) ∧ ∀ base : Heap, (K w.params).In base → base.Ns mainGlobals mg → (∃ ob, base.get? sysModules = some ob) → FnG l.prog w (K w.params) mg base k fa fd [x] (sp w))
    (hsp : ∀ (w : World) (H : Hp) (a : Addr) (ns : List Int), ns.length ≤ n → (∀ z ∈ ns, Builtin.Int.intBits z ≤ 1048576) → Only H → SqL (K w.params) H a (ns.map V.int) → sp w [.ref a] H (fun v _ => v = .bl true) fun _ _ _ => False) :
    PySem.W.WalkO q loose XP YP l.row.toRowW d [] (fun f vs => PySem.call f vs) := by
  refine Att.attach_callB hn hdf fun w s0 s1 mg mb fa o pm cd doc a vs ns B Y ho hd hcd hmg hobj hints hlen hbits hg => ?_
  obtain ⟨fd, b, g⟩ := G w mg fa _ (hY w _ Y) B.T.g hmg
  exact law_run (let ⟨mm, q, _⟩ := (B.T.seer hi).mods; ⟨mm, q⟩) (hY w _ Y) B.T.g B.T.b B.T.builtins B.T.nolimit hg hobj hints (Nat.le_trans hlen hn2) hr g b fun H on s => hsp w H a ns hlen hbits on s
end Y

/-! Y6: trees as data (repr, ==), comprehensions by values, stores into cells, the law's head. -/
namespace Y
open PySem PySem.Spec L2 SX Z
open PyProof.Rows (subscriptTail)
/-! ### trees as data -/
def keyPy : DK → PyData
  | .inl i => .int i
  | .inr s => .str (S s)
mutual
def toPy : DT → PyData
  | .non => .none
  | .bl b => .bool b
  | .int i => .int i
  | .str s => .str (S s)
  | .lst xs => .list (toPyA xs)
  | .tup xs => .tuple (toPyA xs)
  | .dct kvs => .dict (toPyK kvs)
  | .seq _ => .none
  | .obj _ _ => .none
  | .ref _ => .none
  | .ty _ => .none
  | .exc _ _ => .none
  | .hot _ _ _ => .none
def toPyA : List DT → List PyData
  | [] => []
  | x :: xs => toPy x :: toPyA xs
def toPyK : List (DK × DT) → List (PyData × PyData)
  | [] => []
  | (k, d) :: r => (keyPy k, toPy d) :: toPyK r
end
mutual
def plain : DT → Bool
  | .lst xs => plainA xs
  | .tup xs => plainA xs
  | .dct kvs => plainK kvs
  | .seq _ => false
  | .obj _ _ => false
  | .ref _ => false
  | .ty _ => false
  | .exc _ _ => false
  | .hot _ _ _ => false
  | _ => true
def plainA : List DT → Bool
  | [] => true
  | x :: xs => plain x && plainA xs
def plainK : List (DK × DT) → Bool
  | [] => true
  | (_, d) :: r => plain d && plainK r
end
section
variable {X : Cx} {pins : List (Addr × Obj)} {st : L2.St} {H K : Hp} {σ : Sg} {s : Shared}
theorem not_sm {a : Addr} {o : HO} (I : Inv X pins st K s) (sm : ∃ ob, X.base.get? sysModules = some ob) (e : K a = some o) : a ≠ sysModules := fun z => by
  obtain ⟨ob, h⟩ := sm
  have := (I.bs _ _ h).2
  rw [← z, e] at this
  cases this
theorem keyReads {h : Heap} {k : DK} {v : Value} (p : keyIs (keyD k) v = true) : Reads h v (keyPy k) [] := by
  cases k with
  | inl i =>
    obtain ⟨t, z⟩ := Value.isInt_shape (k := i) p
    rw [z]
    exact .int i t
  | inr x =>
    obtain ⟨t, z⟩ := Value.isStrOf_shape (x := S x) p
    rw [z]
    exact .str _ t
mutual
theorem Rep.reads (w : Wd X.K H σ K) (I : Inv X pins st K s) (sm : ∃ ob, X.base.get? sysModules = some ob) : ∀ (d : DT) (v : V) (u : Value), Rep X.K H v d → plain d = true → RelV v u → ∃ as, Reads s.heap u (toPy d) as ∧ sysModules ∉ as
  | .non, _, _, h, _, r => by cases h; cases r; exact ⟨_, .none, by simp⟩
  | .bl b, _, _, h, _, r => by cases h; cases r; exact ⟨_, .bool b, by simp⟩
  | .int i, _, _, h, _, r => by cases h; obtain ⟨t, rfl⟩ := r; exact ⟨_, .int i t, by simp⟩
  | .str x, _, _, h, _, r => by cases h; obtain ⟨t, rfl⟩ := r; exact ⟨_, .str _ t, by simp⟩
  | .lst ds, _, _, h, p, r => by
    cases h with
    | lst hs ra =>
      cases r
      have e := w.le _ _ hs
      obtain ⟨_, its, n, rv, ho⟩ := I.hok _ _ e
      obtain ⟨as, hr, hn⟩ := Rep.readsA w I sm ds _ its ra p rv
      exact ⟨_, .list ho rfl rfl hr, fun z => by
        rcases List.mem_cons.mp z with z | z
        · exact not_sm I sm e z.symm
        · exact hn z⟩
  | .tup ds, _, _, h, p, r => by
    cases h with
    | tup hs ra =>
      cases r
      obtain ⟨its, rv, ⟨o, ho, hc, n, hd⟩, _⟩ := I.tuple (same_sqt w.le hs)
      obtain ⟨as, hr, hn⟩ := Rep.readsA w I sm ds _ its ra p rv
      exact ⟨_, .tuple ho hc hd hr, hn⟩
  | .dct kvs, _, _, h, p, r => by
    cases h with
    | dct hs ra =>
      cases r
      have e := w.le _ _ hs
      obtain ⟨_, _, hsm, vs, kv, o, es, ep, ho, hex, hd, _, hp, _⟩ := I.hok _ _ e
      obtain ⟨as, bs, h1, h2, n1, n2⟩ := Rep.readsK w I sm kvs _ vs es.toList ra p kv hp
      refine ⟨_, .dict ho hex.1 hd h1 h2, fun z => ?_⟩
      rcases List.mem_append.mp z with z | z
      · rcases List.mem_cons.mp z with z | z
        · exact not_sm I sm e z.symm
        · exact n1 z
      · exact n2 z
  | .seq _, _, _, _, p, _ => by cases p
  | .obj _ _, _, _, _, p, _ => by cases p
  | .ref _, _, _, _, p, _ => by cases p
  | .ty _, _, _, _, p, _ => by cases p
  | .exc _ _, _, _, _, p, _ => by cases p
  | .hot _ _ _, _, _, _, p, _ => by cases p
theorem Rep.readsA (w : Wd X.K H σ K) (I : Inv X pins st K s) (sm : ∃ ob, X.base.get? sysModules = some ob) : ∀ (ds : List DT) (vs : List V) (us : List Value), RepA X.K H vs ds → plainA ds = true → Vals vs us → ∃ as, ReadsAll s.heap us (toPyA ds) as ∧ sysModules ∉ as
  | [], _, _, h, _, r => by cases h; cases r; exact ⟨_, .nil, by simp⟩
  | d :: ds, _, _, h, p, r => by
    cases h with
    | cons h1 h2 =>
      cases r with
      | cons r1 r2 =>
        have p := Bool.and_eq_true_iff.mp (show (plain d && plainA ds) = true from p)
        obtain ⟨as, q1, n1⟩ := Rep.reads w I sm d _ _ h1 p.1 r1
        obtain ⟨bs, q2, n2⟩ := Rep.readsA w I sm ds _ _ h2 p.2 r2
        exact ⟨_, .cons q1 q2, fun z => (List.mem_append.mp z).elim n1 n2⟩
theorem Rep.readsK (w : Wd X.K H σ K) (I : Inv X pins st K s) (sm : ∃ ob, X.base.get? sysModules = some ob) : ∀ (ds : List (DK × DT)) (kvs : List (Key × V)) (vs : List (Key × Value)) (es : List DictEntry), RepK X.K H kvs ds → plainK ds = true → KV kvs vs → Pairs (mixKind X.prog X.w) es vs →
    ∃ as bs, ReadsAll s.heap (es.map (·.key)) ((toPyK ds).map (·.1)) as ∧ ReadsAll s.heap (es.map (·.val)) ((toPyK ds).map (·.2)) bs ∧ sysModules ∉ as ∧ sysModules ∉ bs
  | [], _, _, _, h, _, r, hp => by cases h; cases r; cases hp; exact ⟨_, _, .nil, .nil, by simp, by simp⟩
  | (k, d) :: ds, _, _, _, h, p, r, hp => by
    cases h with
    | cons h1 h2 =>
      cases r with
      | cons r1 r2 =>
        cases hp with
        | cons p1 p2 p3 =>
          have p := Bool.and_eq_true_iff.mp (show (plain d && plainK ds) = true from p)
          obtain ⟨e1, r1⟩ := r1
          rw [← p2] at r1
          obtain ⟨bs, q1, n1⟩ := Rep.reads w I sm d _ _ h1 p.1 r1
          obtain ⟨as, bs2, q2, q3, n2, n3⟩ := Rep.readsK w I sm ds _ _ _ h2 p.2 r2 p3
          rw [← e1] at p1
          have hk := keyReads (h := s.heap) (k := k) p1
          exact ⟨[] ++ as, _, .cons hk q2, .cons q1 q3, by simpa using n2, fun z => (List.mem_append.mp z).elim n1 n3⟩
end
end
section
variable {c : Ct} {ρ : EnvT} {σ : Sg} {x y d : DT} {e elt iter tg : Expr} {pos : Pos} {ifs : List Expr} {scope : Scope} {own : List (Str × Nat)} {t : TgS}
/-- repr of a list, a tuple, a dict -/
theorem pf_repr (sm : ∃ ob, c.base.get? sysModules = some ob) (hr : ∀ F H v, Rep F H v d → ∃ a, v = .ref a) (hp : plain d = true) (h1 : (toPy d).showable = true) (h3 : (toPy d).depth ≤ 64) (h4 : (toPy d).shown.length ≤ sizeLine) : POF c (.builtin "repr") [d] σ (.str (toPy d).shown.cps.toList) := ⟨fun X hX H K w vs ra Q k => by
  have hX' := hX
  cases hX' with
  | mk _ k' Wx fa hpp hrH hcf hh hp' htk hf' hN hU hst =>
    obtain ⟨v, rfl, rv⟩ := repA_one ra
    obtain ⟨a, rfl⟩ := hr _ _ _ rv
    intro pins s st us I r
    obtain ⟨u, rfl, ru⟩ := vals1 r
    cases ru
    obtain ⟨as, rd, nsm⟩ := Rep.reads w I sm d _ _ rv hp rfl
    refine repr_of_reads' rd h1 (fun _ => nsm) hU (by have := hrH.un; omega) (fun _ _ z => z) (fun h' u tk hk => ⟨.str _, K, I.kept hk, ⟨_, rfl⟩, k _ H K Gw.refl w ?_⟩) h4
    have := Rep.str (F := X.K) (H := H) (toPy d).shown.cps.toList
    rwa [S_tl] at this⟩
/-- == of data -/
theorem po_eqD (sm : ∃ ob, c.base.get? sysModules = some ob) (p1 : plain x = true) (p2 : plain y = true) (s1 : SeqAt.shaped (toPy x) = true) (s2 : SeqAt.shaped (toPy y) = true) : PO2 c (compareOp .Eq) x y σ (.bl (PyData.eqv (toPy x) (toPy y))) := ⟨fun X hX H K w v u rv ru Q k => by
  have hX' := hX
  cases hX' with
  | mk _ k' Wx fa hpp hrH hcf hh hp' htk hf' hN hU hst =>
    intro pins s st v' u' I r1 r2
    obtain ⟨as, q1, _⟩ := Rep.reads w I sm x _ _ rv p1 r1
    obtain ⟨bs, q2, _⟩ := Rep.reads w I sm y _ _ ru p2 r2
    exact SeqAt.compareEq_shaped q1 q2 s1 s2 (hunits hrH) ⟨.bl _, K, I, rfl, k _ H K Gw.refl w (.bl _)⟩⟩
theorem po_neD (sm : ∃ ob, c.base.get? sysModules = some ob) (p1 : plain x = true) (p2 : plain y = true) (s1 : SeqAt.shaped (toPy x) = true) (s2 : SeqAt.shaped (toPy y) = true) : PO2 c (compareOp .NotEq) x y σ (.bl (!PyData.eqv (toPy x) (toPy y))) := ⟨fun X hX H K w v u rv ru Q k => by
  have hX' := hX
  cases hX' with
  | mk _ k' Wx fa hpp hrH hcf hh hp' htk hf' hN hU hst =>
    intro pins s st v' u' I r1 r2
    obtain ⟨as, q1, _⟩ := Rep.reads w I sm x _ _ rv p1 r1
    obtain ⟨bs, q2, _⟩ := Rep.reads w I sm y _ _ ru p2 r2
    exact SeqAt.compareNe_shaped q1 q2 s1 s2 (hunits hrH) ⟨.bl _, K, I, rfl, k _ H K Gw.refl w (.bl _)⟩⟩
/-! ### comprehensions by values -/
def LcV (c : Ct) (ifs : List Expr) (elt : Expr) (ρ : EnvT) (σ : Sg) (b : Bool) (d : DT) : Prop :=
  match ifs with
  | [] => b = true ∧ TV c elt ρ σ d
  | [a] => TB c a ρ σ b ∧ (b = true → TV c elt ρ σ d)
  | _ => False
theorem lcNeed_of {α : Type} {l : List α} {g f : α → DT} {tt : α → Bool} {ρ' : α → EnvT} {Q : DT → Sg → Prop} (hn : l.length ≤ 1000000) (hst : ∀ a ∈ l, stT t (g a) (wipeT ρ (own.map (·.2))) = some (ρ' a)) (hs : ∀ a ∈ l, LcV (c.blk scope) ifs elt (ρ' a) σ (tt a) (f a))
    (q : ∀ D, σ D = none → Q (.ref D) (su σ D (.lst ((l.filter tt).map f)))) : LcNeed c t own ifs elt scope ρ Q (l.map g) σ := by
  refine ⟨by rw [List.length_map]; exact hn, fun i acc σ2 => σ2 = σ ∧ acc = ((l.take i).filter tt).map f, ⟨rfl, by simp⟩, fun i d acc σ2 hd ⟨e1, e2⟩ => ?_, fun D acc σ2 hD _ ⟨e1, e2⟩ => ?_⟩
  · subst e1 e2
    rw [List.getElem?_map] at hd
    obtain ⟨a, ha, rfl⟩ := Option.map_eq_some_iff.mp hd
    have hm : a ∈ l := List.mem_of_getElem? ha
    refine ⟨ρ' a, hst a hm, ?_⟩
    have hi : i < l.length := (List.getElem?_eq_some_iff.mp ha).1
    have tk : l.take (i + 1) = l.take i ++ [a] := by rw [List.take_succ, ha]; rfl
    have h := hs a hm
    match ifs, h with
    | [], h =>
      refine h.2.to ⟨rfl, ?_⟩
      rw [tk, List.filter_append, List.map_append, List.filter_cons_of_pos h.1]
      rfl
    | [b], h =>
      refine h.1.to ⟨fun e => (h.2 e).to ⟨rfl, ?_⟩, fun e => ⟨rfl, ?_⟩⟩
      · rw [tk, List.filter_append, List.map_append, List.filter_cons_of_pos e]
        rfl
      · rw [tk, List.filter_append, List.map_append, List.filter_cons_of_neg (by rw [e]; decide)]
        simp
    | _ :: _ :: _, h => exact h.elim
  · subst e1 e2
    rw [List.length_map, List.take_length]
    exact q D hD
theorem tv_lc {α : Type} {l : List α} {g f : α → DT} {tt : α → Bool} {ρ' : α → EnvT} (htg : TgOk (c.blk scope) tg t) (hb : blkC c.N c.sc scope own = true) (hsub : ∀ j ∈ t.slots, j ∈ own.map (·.2)) (hi : TVI c tg iter ρ σ (l.map g)) (hn : l.length ≤ 1000000)
    (hst : ∀ a ∈ l, stT t (g a) (wipeT ρ (own.map (·.2))) = some (ρ' a)) (hs : ∀ a ∈ l, LcV (c.blk scope) ifs elt (ρ' a) σ (tt a) (f a)) (hf : ∀ env x, foldedSetIterable iter env x = pure x := by intro _ _; rfl) :
    TV c (.ListComp elt [⟨tg, iter, ifs, 0⟩] scope pos) ρ σ (.lst ((l.filter tt).map f)) := ⟨fun {Q E} q => te_frz (te_lcC htg hb hsub (hi.to (lcNeed_of hn hst hs fun D hD => ⟨D, _, rfl, su_same, by rw [sd_su hD]; exact q⟩)) hf)⟩
theorem tv_lcM {α : Type} {l : List α} {g f : α → DT} {ρ' : α → EnvT} (htg : TgOk (c.blk scope) tg t) (hb : blkC c.N c.sc scope own = true) (hsub : ∀ j ∈ t.slots, j ∈ own.map (·.2)) (hi : TVI c tg iter ρ σ (l.map g)) (hn : l.length ≤ 1000000)
    (hst : ∀ a ∈ l, stT t (g a) (wipeT ρ (own.map (·.2))) = some (ρ' a)) (hs : ∀ a ∈ l, TV (c.blk scope) elt (ρ' a) σ (f a)) (hf : ∀ env x, foldedSetIterable iter env x = pure x := by intro _ _; rfl) :
    TV c (.ListComp elt [⟨tg, iter, [], 0⟩] scope pos) ρ σ (.lst (l.map f)) := by
  have := tv_lc (pos := pos) (tt := fun _ => true) htg hb hsub hi hn hst (ifs := []) (elt := elt) (f := f) (fun a ha => ⟨rfl, hs a ha⟩) hf
  rwa [List.filter_eq_self.mpr (fun _ _ => rfl)] at this
/-- .. given to a name, on one line -/
theorem tk_setLcV {α : Type} {l : List α} {g f : α → DT} {tt : α → Bool} {ρ' : α → EnvT} {D : EndT} {r : List Stmt} {x : Str} {p1 p2 : Pos} {i : Nat} (hy : c.N[i]? = some x) (hyl : c.sc.names.lookup x = some .local) (hln : (p1.line == pos.line) = true) (hown : (scope.names.any fun (n, k) => n == x && (k == .local || k == .cell)) = false)
    (hil : i < ρ.length) (htg : TgOk (c.blk scope) tg t) (hb : blkC c.N c.sc scope own = true) (hsub : ∀ j ∈ t.slots, j ∈ own.map (·.2)) (hi : TVI c tg iter ρ σ (l.map g)) (hn : l.length ≤ 1000000)
    (hst : ∀ a ∈ l, stT t (g a) (wipeT ρ (own.map (·.2))) = some (ρ' a)) (hs : ∀ a ∈ l, LcV (c.blk scope) ifs elt (ρ' a) σ (tt a) (f a)) (h : TBk c r (ρ.set i (some (.lst ((l.filter tt).map f)))) σ D) (hf : ∀ env x, foldedSetIterable iter env x = pure x := by intro _ _; rfl) :
    TBk c (.Assign [.Name x p1] (.ListComp elt [⟨tg, iter, ifs, 0⟩] scope pos) p2 :: r) ρ σ D :=
  tk_cons (ts_setLc hy hyl hln hown htg hb hsub (hi.to (lcNeed_of hn hst hs fun D hD => tk_frz (i := i) (by rw [List.getElem?_set_self hil]) su_same (by rw [List.set_set, sd_su hD]; exact h))) hf)
theorem tk_setLcM {α : Type} {l : List α} {g f : α → DT} {ρ' : α → EnvT} {D : EndT} {r : List Stmt} {x : Str} {p1 p2 : Pos} {i : Nat} (hy : c.N[i]? = some x) (hyl : c.sc.names.lookup x = some .local) (hln : (p1.line == pos.line) = true) (hown : (scope.names.any fun (n, k) => n == x && (k == .local || k == .cell)) = false)
    (hil : i < ρ.length) (htg : TgOk (c.blk scope) tg t) (hb : blkC c.N c.sc scope own = true) (hsub : ∀ j ∈ t.slots, j ∈ own.map (·.2)) (hi : TVI c tg iter ρ σ (l.map g)) (hn : l.length ≤ 1000000)
    (hst : ∀ a ∈ l, stT t (g a) (wipeT ρ (own.map (·.2))) = some (ρ' a)) (hs : ∀ a ∈ l, TV (c.blk scope) elt (ρ' a) σ (f a)) (h : TBk c r (ρ.set i (some (.lst (l.map f)))) σ D) (hf : ∀ env x, foldedSetIterable iter env x = pure x := by intro _ _; rfl) :
    TBk c (.Assign [.Name x p1] (.ListComp elt [⟨tg, iter, [], 0⟩] scope pos) p2 :: r) ρ σ D :=
  tk_setLcV (tt := fun _ => true) hy hyl hln hown hil htg hb hsub hi hn hst (fun a ha => ⟨rfl, hs a ha⟩) (by rw [List.filter_eq_self.mpr (fun _ _ => rfl)]; exact h) hf
end
/-! ### stores into a list that is a cell -/
section
variable {c : Ct} {ρ : EnvT} {σ : Sg} {D : EndT} {e a b : Expr} {pos p1 : Pos}
theorem ts_setItem (h : TE c e ρ σ (fun v σ1 => TE c a ρ σ1 (fun o σ2 => TE c b ρ σ2 (fun i σ3 => ∃ p xs k j, o = .ref p ∧ i = .int k ∧ σ3 p = some (.lst xs) ∧ ixN xs.length k = some j ∧ D.nx ρ (su σ3 p (.lst (xs.set j v)))) (xD D ρ)) (xD D ρ)) (xD D ρ))
    (ha : ∀ env v, assign (.Subscript a b p1) env v = (do
      let ov ← holding [v] (eval a env)
      let iv ← holding [v, ov] (eval b env)
      standAt p1
      holding [v, ov, iv] (setItem ov iv v)
      release [v, ov, iv] []) := by intro _ _; rfl) (hsw : ∀ env, swapsWithSole [.Subscript a b p1] e pos.line env = pure false := by intro _; rfl) (hst : ∀ env, swappedStores [.Subscript a b p1] e env = pure none := by intro _; rfl)
    (has : ∀ env, (assignEach [.Subscript a b p1] env).map (·.2) = [assign (.Subscript a b p1) env] := by intro _; rfl) : TS c (.Assign [.Subscript a b p1] e pos) ρ σ D := ⟨fun X hX st H K w re D' f => by
  refine cS_of (ps_asg cE_pe (pg_sub cE_pe cE_pe set_list (ha _)) (hsw _) (hst _) (has _)) ?_
  refine h.run X hX st H K w re (f.xc re) _ fun v d σ1 H1 K1 g1 w1 rv h1 => ?_
  refine h1.run X hX st H1 K1 w1 (re.same g1.b) ((f.next g1).xc (re.same g1.b)) _ fun o dO σ2 H2 K2 g2 w2 ro h2 => ?_
  have g12 := g1.trans g2
  refine h2.run X hX st H2 K2 w2 (re.same g12.b) ((f.next g12).xc (re.same g12.b)) _ fun i di σ3 H3 K3 g3 w3 ri ⟨p, xs, k, j, e1, e2, e3, e4, q⟩ => ?_
  subst e1 e2
  cases ro
  cases ri
  have g := g12.trans g3
  obtain ⟨vs, e5, ra⟩ := w3.on p _ e3
  refine ⟨p, vs, k, j, rfl, rfl, e5, by rw [ra.length]; exact e4, ?_⟩
  exact f.nx _ _ _ H3 _ (g.trans (Gw.write e3)) (w3.write e3 (c' := .lst (xs.set j d)) ⟨_, upd_same, RepA.set (rv.same (g2.trans g3).b) j ra⟩) (re.same g.b) q⟩
end
/-! ### the law -/
def lawSpec : TSpec := fun ds σ Q _ => ∃ ns : List Int, ds = [.seq (ns.map DT.int)] ∧ ns.length ≤ 63 ∧ (∀ z ∈ ns, Builtin.Int.intBits z ≤ 1048576) ∧ ∀ σ', Q (.bl true) σ'
theorem walkT {l : PySem.W.OpenLaw} {k : Nat} {q : Program} {loose : List Str} {XP : (Str → Option Value) → Heap → Prop} {YP : World → Heap → Prop} {d : DefRec} {K : Params → PySem.W.Frag} {x : Str}
    (hi : PyProof.Rows.importsNone q = true) (hn : l.most = some 63) (hdf : d.params.defaults = []) (hr : Room k callerA) (hY : ∀ (w : World) (h : Heap), YP w h → (K w.params).In h)
    (G : ∀ (w : World) (mg : Str → Option Value) (fa : Addr) (h : Heap), (K w.params).In h → h.Ns mainGlobals mg → mg d.name = some (.ref fa) →
      ∃ fd : FuncData, (∀ (s : Shared) (u : Value), BindsTo s fd ⟨[u], []⟩ [(x, u)]) ∧ ∀ base : Heap, (K w.params).In base → base.Ns mainGlobals mg → (∃ ob, base.get? sysModules = some ob) → FnG l.prog w (K w.params) mg base k fa fd [x] (spT (K w.params) lawSpec)) :
    PySem.W.WalkO q loose XP YP l.row.toRowW d [] (fun f vs => PySem.call f vs) :=
  walkG (n := 63) (k := k) (x := x) (sp := fun w => spT (K w.params) lawSpec) hi hn (by decide) hdf hr hY G
    fun w H a ns hl hz _ hs => ⟨[.seq (ns.map DT.int)], H, fun _ => none, fun d _ => d = .bl true, TX0, ⟨Same.refl H, (fun _ _ e => nomatch e), (fun _ _ e => nomatch e)⟩, .cons (.seq hs (repA_of V.int DT.int (fun i => .int i) ns)) .nil, ⟨ns, rfl, hl, hz, fun _ => rfl⟩,
      fun v d σ' H' K' _ _ rv e => by subst e; cases rv; rfl, fun _ _ _ _ _ _ _ _ _ z => z.elim⟩
end Y

/-! Y7: trees of bounded size: their repr, their ==. -/
namespace Y
open PySem PySem.Spec L2 SX Z
theorem shown_int_big {i : Int} (h : i.natAbs < 10 ^ 61) : (PyData.shown (.int i)).length ≤ 63 := by
  have e := int_text_length_le10 (k := 61) (by decide) h
  show (Str.ofString (toString i)).length ≤ 63
  rw [PySem.ofString_length]
  omega
mutual
inductive Gd : Nat → Nat → DT → Prop
  | non {n w : Nat} : Gd n w .non
  | bl {n w : Nat} (b : Bool) : Gd n w (.bl b)
  | int {n w : Nat} {i : Int} (h : i.natAbs < 10 ^ 61) (hw : 203 ≤ w) : Gd n w (.int i)
  | str {n w : Nat} {s : List Nat} (h : s.length ≤ w) (ok : s.all (fun k => decide (k < 1114112)) = true) : Gd n w (.str s)
  | lst {n w : Nat} {xs : List DT} (h : GdA n w xs) : Gd (n + 1) w (.lst xs)
  | tup {n w : Nat} {xs : List DT} (h : GdA n w xs) : Gd (n + 1) w (.tup xs)
  | dct {n w : Nat} {xs : List (DK × DT)} (h : GdK n w xs) : Gd (n + 1) w (.dct xs)
inductive GdA : Nat → Nat → List DT → Prop
  | nil {n w : Nat} : GdA n w []
  | cons {n w w1 w2 : Nat} {x : DT} {xs : List DT} (h : Gd n w1 x) (h2 : GdA n w2 xs) (e : w1 + 1 + w2 ≤ w) : GdA n w (x :: xs)
inductive GdK : Nat → Nat → List (DK × DT) → Prop
  | nil {n w : Nat} : GdK n w []
  | cons {n w w0 w1 w2 : Nat} {k : DK} {x : DT} {xs : List (DK × DT)} (h0 : Gd n w0 (dk k)) (h : Gd n w1 x) (h2 : GdK n w2 xs) (e : w0 + w1 + 2 + w2 ≤ w) : GdK n w ((k, x) :: xs)
end
structure GdF (n w : Nat) (d : PyData) : Prop where
  dep : d.depth ≤ n
  wt : d.weight ≤ w
  sh : d.showable = true
  lv : d.leavesShort 63 = true
theorem gdF_int {n w : Nat} {i : Int} (h : i.natAbs < 10 ^ 61) (hw : 203 ≤ w) : GdF n w (.int i) := by
  have hl : i.natAbs.log2 < 203 := by
    by_cases z : i.natAbs = 0
    · rw [z]; decide
    · exact (Nat.log2_lt z).mpr (Nat.lt_of_lt_of_le h (by decide))
  refine ⟨Nat.zero_le _, ?_, decide_eq_true (by omega), decide_eq_true (shown_int_big h)⟩
  unfold PyData.weight
  split <;> omega
theorem gdF_str {n w : Nat} {s : List Nat} (h : s.length ≤ w) (ok : s.all (fun k => decide (k < 1114112)) = true) : GdF n w (.str (S s)) := by
  refine ⟨Nat.zero_le _, by unfold PyData.weight; simpa [S] using h, rfl, ?_⟩
  unfold PyData.leavesShort
  rw [List.all_eq_true] at ok ⊢
  intro k hk
  have := of_decide_eq_true (ok k (by simpa [S] using hk))
  exact decide_eq_true (Nat.lt_trans this (by decide))
theorem gdF_key {n w : Nat} {k : DK} (h : Gd n w (dk k)) : GdF n w (keyPy k) := by
  cases k with
  | inl i => cases h with | int h hw => exact gdF_int h hw
  | inr s => cases h with | str h ok => exact gdF_str h ok
mutual
theorem Gd.plain : ∀ {n w : Nat} {d : DT}, Gd n w d → Y.plain d = true
  | _, _, _, .non => rfl
  | _, _, _, .bl _ => rfl
  | _, _, _, .int _ _ => rfl
  | _, _, _, .str _ _ => rfl
  | _, _, _, .lst h => GdA.plain h
  | _, _, _, .tup h => GdA.plain h
  | _, _, _, .dct h => GdK.plain h
theorem GdA.plain : ∀ {n w : Nat} {d : List DT}, GdA n w d → plainA d = true
  | _, _, _, .nil => rfl
  | _, _, _, .cons h h2 _ => Bool.and_eq_true_iff.mpr ⟨Gd.plain h, GdA.plain h2⟩
theorem GdK.plain : ∀ {n w : Nat} {d : List (DK × DT)}, GdK n w d → plainK d = true
  | _, _, _, .nil => rfl
  | _, _, _, .cons _ h h2 _ => Bool.and_eq_true_iff.mpr ⟨Gd.plain h, GdK.plain h2⟩
end
mutual
theorem Gd.f : ∀ {n w : Nat} {d : DT}, Gd n w d → GdF n w (toPy d)
  | _, _, _, .non => ⟨Nat.zero_le _, Nat.zero_le _, rfl, rfl⟩
  | _, _, _, .bl _ => ⟨Nat.zero_le _, Nat.zero_le _, rfl, rfl⟩
  | _, _, _, .int h hw => gdF_int h hw
  | _, _, _, .str h ok => gdF_str h ok
  | _, _, _, .lst h => by
    obtain ⟨h1, h2, h3, h4⟩ := GdA.f h
    exact ⟨Nat.succ_le_succ h1, h2, h3, h4⟩
  | _, _, _, .tup h => by
    obtain ⟨h1, h2, h3, h4⟩ := GdA.f h
    exact ⟨Nat.succ_le_succ h1, h2, h3, h4⟩
  | _, _, _, .dct h => by
    obtain ⟨h1, h2, h3, h4⟩ := GdK.f h
    exact ⟨Nat.succ_le_succ h1, h2, h3, h4⟩
theorem GdA.f : ∀ {n w : Nat} {d : List DT}, GdA n w d → PyData.depthAll (toPyA d) ≤ n ∧ PyData.weightAll (toPyA d) ≤ w ∧ PyData.showableAll (toPyA d) = true ∧ PyData.leavesShortAll 63 (toPyA d) = true
  | _, _, _, .nil => ⟨Nat.zero_le _, Nat.zero_le _, rfl, rfl⟩
  | _, _, _, .cons h h2 e => by
    obtain ⟨a1, a2, a3, a4⟩ := Gd.f h
    obtain ⟨b1, b2, b3, b4⟩ := GdA.f h2
    simp only [toPyA, PyData.depthAll, PyData.weightAll, PyData.showableAll, PyData.leavesShortAll, a3, a4, b3, b4, Bool.and_self]
    exact ⟨Nat.max_le.mpr ⟨a1, b1⟩, by omega, trivial, trivial⟩
theorem GdK.f : ∀ {n w : Nat} {d : List (DK × DT)}, GdK n w d → PyData.depthKv (toPyK d) ≤ n ∧ PyData.weightKv (toPyK d) ≤ w ∧ PyData.showableKv (toPyK d) = true ∧ PyData.leavesShortKv 63 (toPyK d) = true
  | _, _, _, .nil => ⟨Nat.zero_le _, Nat.zero_le _, rfl, rfl⟩
  | _, _, _, .cons h0 h h2 e => by
    obtain ⟨c1, c2, c3, c4⟩ := gdF_key h0
    obtain ⟨a1, a2, a3, a4⟩ := Gd.f h
    obtain ⟨b1, b2, b3, b4⟩ := GdK.f h2
    simp only [toPyK, PyData.depthKv, PyData.weightKv, PyData.showableKv, PyData.leavesShortKv, a3, a4, b3, b4, c3, c4, Bool.and_self]
    exact ⟨Nat.max_le.mpr ⟨Nat.max_le.mpr ⟨c1, a1⟩, b1⟩, by omega, trivial, trivial⟩
end
theorem GdA.app : ∀ {n a b : Nat} {xs ys : List DT}, GdA n a xs → GdA n b ys → GdA n (a + b) (xs ++ ys)
  | _, _, _, _, ys, .nil, h => by
    rw [List.nil_append]
    cases h with
    | nil => exact .nil
    | cons h h2 e => exact .cons h h2 (by omega)
  | _, _, _, _, _, .cons h h2 e, t => .cons h (GdA.app h2 t) (by omega)
theorem GdA.all {n w : Nat} : ∀ {xs : List DT}, (∀ x ∈ xs, Gd n w x) → GdA n (xs.length * (w + 1)) xs
  | [], _ => .nil
  | x :: xs, h => .cons (h x List.mem_cons_self) (GdA.all fun y hy => h y (List.mem_cons_of_mem _ hy)) (by rw [List.length_cons, Nat.add_mul]; omega)
theorem GdA.le {n a b : Nat} (h : a ≤ b) : ∀ {xs : List DT}, GdA n a xs → GdA n b xs
  | _, .nil => .nil
  | _, .cons h1 h2 e => .cons h1 h2 (by omega)
def isBox : DT → Bool
  | .lst _ => true
  | .tup _ => true
  | .dct _ => true
  | _ => false
theorem isBox_ref {d : DT} (h : isBox d = true) : ∀ F H v, Rep F H v d → ∃ a, v = .ref a := fun F H v r => by
  cases r with
  | lst => exact ⟨_, rfl⟩
  | tup => exact ⟨_, rfl⟩
  | dct => exact ⟨_, rfl⟩
  | _ => cases h
/-- the text of a tree -/
def reprT (d : DT) : List Nat := (toPy d).shown.cps.toList
section
variable {c : Ct} {σ : Sg} {x y d : DT} {xs : List DT}
theorem pf_reprG {n w : Nat} (sm : ∃ ob, c.base.get? sysModules = some ob) (hb : isBox d = true) (g : Gd n w d) (hn : n ≤ 64) (hw : w ≤ 250000) : POF c (.builtin "repr") [d] σ (.str (reprT d)) := by
  have f := g.f
  refine pf_repr sm (isBox_ref hb) g.plain f.sh (Nat.le_trans f.dep hn) ?_
  have := PyData.shown_le 63 (by decide) (toPy d) f.lv
  have h2 : (63 + 2) * (toPy d).weight ≤ (63 + 2) * 250000 := Nat.mul_le_mul (Nat.le_refl _) (Nat.le_trans f.wt hw)
  rw [sizeLine_eq]
  omega
/-! ### == of trees without dicts -/
def Sh : Nat → DT → Prop
  | _, .non => True
  | _, .bl _ => True
  | _, .int _ => True
  | _, .str s => s.all (fun k => decide (k < 1114112)) = true
  | n + 1, .lst xs => ∀ x ∈ xs, Sh n x
  | n + 1, .tup xs => ∀ x ∈ xs, Sh n x
  | _, _ => False
theorem sh_f : ∀ (n : Nat) (d : DT), Sh n d → Y.plain d = true ∧ (toPy d).canLay0 = true ∧ (toPy d).depth ≤ n := by
  have str : ∀ {n : Nat} {s : List Nat}, s.all (fun k => decide (k < 1114112)) = true → Y.plain (.str s) = true ∧ (toPy (.str s)).canLay0 = true ∧ (toPy (.str s)).depth ≤ n := fun {n s} h => by
    refine ⟨rfl, ?_, Nat.zero_le _⟩
    show PyData.strOk (S s) = true
    unfold PyData.strOk
    simp only [S]
    rw [← Array.all_toList]
    exact h
  have lst : ∀ (n : Nat), (∀ d, Sh n d → Y.plain d = true ∧ (toPy d).canLay0 = true ∧ (toPy d).depth ≤ n) → ∀ xs : List DT, (∀ x ∈ xs, Sh n x) → plainA xs = true ∧ PyData.canLayAll0 (toPyA xs) = true ∧ PyData.depthAll (toPyA xs) ≤ n := by
    intro n ih xs
    induction xs with
    | nil => intro _; exact ⟨rfl, rfl, Nat.zero_le _⟩
    | cons x xs ih2 =>
      intro h
      obtain ⟨a1, a2, a3⟩ := ih x (h x List.mem_cons_self)
      obtain ⟨b1, b2, b3⟩ := ih2 fun y hy => h y (List.mem_cons_of_mem _ hy)
      exact ⟨Bool.and_eq_true_iff.mpr ⟨a1, b1⟩, Bool.and_eq_true_iff.mpr ⟨a2, b2⟩, Nat.max_le.mpr ⟨a3, b3⟩⟩
  intro n
  induction n with
  | zero =>
    intro d h
    cases d with
    | non => exact ⟨rfl, rfl, Nat.le_refl _⟩
    | bl => exact ⟨rfl, rfl, Nat.le_refl _⟩
    | int => exact ⟨rfl, rfl, Nat.le_refl _⟩
    | str s => exact str h
    | _ => exact h.elim
  | succ n ih =>
    intro d h
    cases d with
    | non => exact ⟨rfl, rfl, Nat.zero_le _⟩
    | bl => exact ⟨rfl, rfl, Nat.zero_le _⟩
    | int => exact ⟨rfl, rfl, Nat.zero_le _⟩
    | str s => exact str h
    | lst xs =>
      obtain ⟨a, b, c⟩ := lst n ih xs h
      exact ⟨a, b, Nat.succ_le_succ c⟩
    | tup xs =>
      obtain ⟨a, b, c⟩ := lst n ih xs h
      exact ⟨a, b, Nat.succ_le_succ c⟩
    | _ => exact h.elim
theorem sh_sh {n : Nat} (h : Sh n d) (hn : n ≤ 64) : SeqAt.shaped (toPy d) = true := by
  obtain ⟨_, a, b⟩ := sh_f n d h
  unfold SeqAt.shaped
  rw [a, decide_eq_true (Nat.le_trans b hn)]
  rfl
theorem sh_ints {n : Nat} (ns : List Int) : Sh (n + 1) (.lst (ns.map DT.int)) := fun x hx => by
  obtain ⟨i, _, rfl⟩ := List.mem_map.mp hx
  cases n <;> exact trivial
/-- equal as data -/
def eqT (x y : DT) : Bool := PyData.eqv (toPy x) (toPy y)
theorem po_eqT {n m : Nat} (sm : ∃ ob, c.base.get? sysModules = some ob) (h1 : Sh n x) (h2 : Sh m y) (hn : n ≤ 64) (hm : m ≤ 64) : PO2 c (compareOp .Eq) x y σ (.bl (eqT x y)) := po_eqD sm (sh_f n x h1).1 (sh_f m y h2).1 (sh_sh h1 hn) (sh_sh h2 hm)
theorem po_neT {n m : Nat} (sm : ∃ ob, c.base.get? sysModules = some ob) (h1 : Sh n x) (h2 : Sh m y) (hn : n ≤ 64) (hm : m ≤ 64) : PO2 c (compareOp .NotEq) x y σ (.bl (!eqT x y)) := po_neD sm (sh_f n x h1).1 (sh_f m y h2).1 (sh_sh h1 hn) (sh_sh h2 hm)
theorem eqT_nil : eqT (.lst xs) (.lst []) = xs.isEmpty := by
  cases xs <;> rfl
theorem sh_nil : Sh 1 (.lst []) := fun _ h => nomatch h
theorem po_eqNil (sm : ∃ ob, c.base.get? sysModules = some ob) (h : Sh 60 (.lst xs)) : PO2 c (compareOp .Eq) (.lst xs) (.lst []) σ (.bl xs.isEmpty) := by
  rw [← eqT_nil]
  exact po_eqT sm h sh_nil (by decide) (by decide)
theorem po_neNil (sm : ∃ ob, c.base.get? sysModules = some ob) (h : Sh 60 (.lst xs)) : PO2 c (compareOp .NotEq) (.lst xs) (.lst []) σ (.bl (!xs.isEmpty)) := by
  rw [← eqT_nil]
  exact po_neT sm h sh_nil (by decide) (by decide)
end
end Y

/-! Y8: comprehensions whose turns change the state; short forms. -/
namespace Y
open PySem PySem.Spec L2 SX Z
section
variable {c : Ct} {ρ : EnvT} {σ : Sg} {Q : DT → Sg → Prop} {E : TX} {tg iter elt : Expr} {scope : Scope} {pos : Pos} {own : List (Str × Nat)} {t : TgS}
/-- a list comprehension whose elements are told by Pa, the state after i turns by R i -/
theorem te_lcR {α : Type} {f : α → DT} {Pa : α → Prop} {R : Nat → Sg → Prop} (htg : TgOk (c.blk scope) tg t) (hb : blkC c.N c.sc scope own = true) (hsub : ∀ j ∈ t.slots, j ∈ own.map (·.2))
    (hi : TI c tg iter ρ σ (fun ds σ1 => ds.length ≤ 1000000 ∧ R 0 σ1 ∧ (∀ i d σ2, ds[i]? = some d → R i σ2 → ∃ ρ', stT t d (wipeT ρ (own.map (·.2))) = some ρ' ∧ TE (c.blk scope) elt ρ' σ2 (fun y σ3 => ∃ a, y = f a ∧ Pa a ∧ R (i + 1) σ3) TX0) ∧
      ∀ (l : List α) σ2, l.length = ds.length → (∀ a ∈ l, Pa a) → R ds.length σ2 → Q (.lst (l.map f)) σ2) E) (hf : ∀ env x, foldedSetIterable iter env x = pure x := by intro _ _; rfl) :
    TE c (.ListComp elt [⟨tg, iter, [], 0⟩] scope pos) ρ σ Q E := by
  refine te_frz (te_lcC htg hb hsub ⟨fun X hX st H K w r xc R' k => hi.run X hX st H K w r xc R' fun ds σ1 Jt G Yh H1 K1 g1 w1 ⟨hn, r0, hs, hq⟩ => k ds σ1 Jt G Yh H1 K1 g1 w1 ?_⟩ hf)
  refine ⟨hn, fun i acc σ2 => ∃ l : List α, acc = l.map f ∧ l.length = i ∧ (∀ a ∈ l, Pa a) ∧ R i σ2, ⟨[], rfl, rfl, (fun _ h => nomatch h), r0⟩, ?_, ?_⟩
  · rintro i d acc σ2 hd ⟨l, rfl, hl, hp, hr⟩
    obtain ⟨ρ', h1, h2⟩ := hs i d σ2 hd hr
    refine ⟨ρ', h1, TE.imp h2 ?_⟩
    rintro y σ3 ⟨a, rfl, pa, r3⟩
    refine ⟨l ++ [a], by simp, by simp [hl], fun b hb => ?_, r3⟩
    rcases List.mem_append.mp hb with z | z
    · exact hp b z
    · rw [List.mem_singleton.mp z]; exact pa
  · rintro D acc σ2 hD _ ⟨l, rfl, hl, hp, hr⟩
    refine ⟨D, _, rfl, su_same, ?_⟩
    rw [sd_su hD]
    exact hq l σ2 hl hp hr
/-- a value in the midst of what is not one -/
theorem te_v {e : Expr} {d : DT} (h : TV c e ρ σ d) (q : Q d σ) : TE c e ρ σ Q E := h.to q
theorem ta_v {e : Expr} {es : List Expr} {d : DT} {QA : List DT → Sg → Prop} (h : TV c e ρ σ d) (q : TA c es ρ σ (fun xs σ2 => QA (d :: xs) σ2) E) (hs : ∀ env, starEach (e :: es) env = (false, eval e env) :: starEach es env := by intro _; rfl) : TA c (e :: es) ρ σ QA E := ta_cons (h.to q) hs
theorem cut_two {a : List DT} {i j : Nat} {x y : Int} (hx : x = (i : Int)) (hy : y = (j : Int)) : cutT a (some x) (some y) = (a.drop i).take (j - i) := by
  subst hx hy
  unfold cutT
  rw [HT.sIx_nat, HT.sIx_nat]
  by_cases h : i ≤ a.length
  · rw [Nat.min_eq_left h]
    by_cases h2 : j ≤ a.length
    · rw [Nat.min_eq_left h2]
    · rw [Nat.min_eq_right (by omega), List.take_of_length_le (by rw [List.length_drop]; omega), List.take_of_length_le (by rw [List.length_drop]; omega)]
  · rw [Nat.min_eq_right (show a.length ≤ i by omega), List.drop_length, List.drop_of_length_le (by omega), List.take_nil, List.take_nil]
theorem cut_to {a : List DT} {j : Nat} {y : Int} (hy : y = (j : Int)) : cutT a none (some y) = a.take j := by
  have h : cutT a none (some y) = cutT a (some 0) (some y) := by
    unfold cutT
    rw [HT.sIx_none, show (0 : Int) = ((0 : Nat) : Int) from rfl, HT.sIx_nat]
    simp
  rw [h, cut_two (x := 0) (i := 0) rfl hy]
  simp
theorem cut_from {a : List DT} {i : Nat} {x : Int} (hx : x = (i : Int)) : cutT a (some x) none = a.drop i := by
  subst hx
  unfold cutT
  rw [HT.sIx_nat, HT.sIx_none]
  by_cases h : i ≤ a.length
  · rw [Nat.min_eq_left h, List.take_of_length_le (by rw [List.length_drop]; omega)]
  · rw [Nat.min_eq_right (by omega), List.drop_length, List.drop_of_length_le (by omega), List.take_nil]
end
end Y

/-! Y9: texts as lists and tuples, texts from behind, dicts written. -/
namespace Y
open PySem PySem.Spec L2 SX Z
open PyProof.Rows (subscriptTail)
theorem vals_get : ∀ {xs : List V} {us : List Value}, us.length = xs.length → (∀ (j : Nat) (u : Value), us[j]? = some u → ∃ x, xs[j]? = some x ∧ RelV x u) → Vals xs us
  | [], [], _, _ => .nil
  | [], _ :: _, h, _ => nomatch h
  | _ :: _, [], h, _ => nomatch h
  | x :: xs, u :: us, h, f => by
    obtain ⟨y, e, r⟩ := f 0 u rfl
    cases e
    exact .cons r (vals_get (Nat.succ.inj h) fun j v e => f (j + 1) v (by simpa using e))
/-- the signs of a text -/
def ones (a : List Nat) : List DT := a.map fun k => .str [k]
def onesV (a : List Nat) : List V := a.map fun k => V.str (S [k])
theorem rep_ones {F : PySem.W.Frag} {H : Hp} (a : List Nat) : RepA F H (onesV a) (ones a) := repA_of _ _ (fun k => .str [k]) a
theorem vals_ones {a : List Nat} {acc : Array Value} (h : ItemsOf (SignAt (S a)) acc (S a).cps.size) : Vals (onesV a) acc.toList := by
  have e : (S a).cps.size = a.length := by simp [S]
  refine vals_get (by rw [Array.length_toList, h.1, e]; simp [onesV]) fun j u hu => ?_
  obtain ⟨k, t, hk, rfl⟩ := h.2 j u (by rw [← Array.getElem?_toList]; exact hu)
  have hk : a[j]? = some k := by simpa [S] using hk
  exact ⟨.str (S [k]), by unfold onesV; rw [List.getElem?_map, hk]; rfl, t, rfl⟩
section
variable {c : Ct} {ρ : EnvT} {σ : Sg} {Q : DT → Sg → Prop} {E : TX} {x y d : DT} {a : List Nat} {e k v : Expr} {pos : Pos} {xs : List DT}
theorem pf_listS [Calm c] (hz : a.length ≤ 16777216) : POF c (.type "list") [.str a] σ (.lst (ones a)) := ⟨fun X hX H K w vs r Q k => by
  cases hX with
  | mk _ k' Wx fa hpp hrH hcf hh hp' htk hf' hN hU hst =>
    obtain rfl : hpp = none := ‹Calm _›.h
    obtain ⟨hc, hr⟩ := hcf rfl
    obtain ⟨v, rfl, rv⟩ := repA_one r
    cases rv
    intro pins s st us I ru
    obtain ⟨u, rfl, t, rfl⟩ := vals1 ru
    have hn : (S a).cps.size ≤ sizeLine := by rw [sizeLine_eq]; simpa [S] using hz
    refine call_list_str (hn := hn) (I.ok.hd hc) (S a) t fun h' tk acc c' hk hS hacc => ?_
    have hD := I.hok.fresh (Nat.le_refl s.heap.objs.size)
    obtain ⟨g, w2⟩ := w.new (o := .lst (onesV a)) hD
    exact ⟨.ref s.heap.objs.size, _, I.laid (t' := tk) (o := .lst (onesV a)) hk (Nat.le_refl _) ⟨by unfold onesV; rw [List.length_map, sizeLine_eq]; exact hz, acc.toList, c', vals_ones hacc, by rw [Array.toArray_toList]; exact hS⟩, rfl, k _ _ _ g w2 (.lst upd_same ((rep_ones a).same g.b))⟩⟩
theorem pf_tupS [Calm c] (hz : a.length ≤ 16777216) : POF c (.type "tuple") [.str a] σ (.tup (ones a)) := ⟨fun X hX H K w vs r Q k => by
  cases hX with
  | mk _ k' Wx fa hpp hrH hcf hh hp' htk hf' hN hU hst =>
    obtain rfl : hpp = none := ‹Calm _›.h
    obtain ⟨hc, hr⟩ := hcf rfl
    obtain ⟨v, rfl, rv⟩ := repA_one r
    cases rv
    intro pins s st us I ru
    obtain ⟨u, rfl, t, rfl⟩ := vals1 ru
    have hn : (S a).cps.size ≤ sizeLine := by rw [sizeLine_eq]; simpa [S] using hz
    refine call_tuple_str (hsz := hn) (I.ok.hd hc) (S a) t fun h' tk acc hk hacc => ?_
    have I2 : Inv X pins st K { s with heap := h', toks := tk } := I.kept (t' := tk) hk
    have hD := I2.hok.fresh (Nat.le_refl h'.objs.size)
    obtain ⟨g, w2⟩ := w.new (o := .tup (onesV a)) hD
    exact ⟨.ref h'.objs.size, _, I2.laid (t' := tk) (o := .tup (onesV a)) (fun b o e => Heap.get?_push_of_some _ e) (Nat.le_refl _) ⟨by unfold onesV; rw [List.length_map, sizeLine_eq]; exact hz, acc.toList, vals_ones hacc, _, Heap.get?_push_size _ rfl, rfl, 0, by rw [Array.toArray_toList]⟩, rfl, k _ _ _ g w2 (.tup (SqT.of upd_same) ((rep_ones a).same g.b))⟩⟩
theorem pf_tupL (hx : LsT σ x xs) : POF c (.type "tuple") [x] σ (.tup xs) := ⟨fun X hX H K w vs r Q k => by
  have hX' := hX
  cases hX'
  obtain ⟨v, rfl, rv⟩ := repA_one r
  obtain ⟨a, vs, rfl, q1, r1⟩ := hx.now w rv
  refine cF_of call_tuple_of ⟨a, vs, rfl, .inl ⟨q1, fun p hp => ?_⟩⟩
  obtain ⟨g, w2⟩ := w.new (o := .tup vs) hp
  exact k _ _ _ g w2 (.tup (SqT.of upd_same) (r1.same g.b))⟩
/-- a text from behind -/
theorem te_revS {k1 : Nat} {p1 p2 p3 : Pos} (h : TE c e ρ σ (fun d σ1 => ∃ a, d = .str a ∧ a.length ≤ 16777216 ∧ Q (.str a.reverse) σ1) E) : TE c (.Subscript e (.Slice none none (some (.UnaryOp .USub (.Constant (.int 1) k1 p1) p2)) p3) pos) ρ σ Q E := ⟨fun X hX st H K w r xc Q' f => fun pins s I => by
  refine PyProof.Rows.Subscript_ (thn (h.run X hX st H K w r xc (fun v K1 => ∃ a σ1 H1, v = .str (S a) ∧ a.length ≤ 16777216 ∧ Gw H σ K H1 σ1 K1 ∧ Wd c.K H1 σ1 K1 ∧ Q (.str a.reverse) σ1) (fun v d σ1 H1 K1 g w1 rv ⟨a, e1, hz, q⟩ => by subst e1; cases rv; exact ⟨a, σ1, H1, rfl, hz, g, w1, q⟩) pins s I) fun v s1 ⟨x, H1, I1, r1, a, σ1, Hh, ex, hz, g, w1, q⟩ => ?_)
  subst ex
  obtain ⟨t, rfl⟩ := r1
  have hst : PO X (some (.UnaryOp .USub (.Constant (.int 1) k1 p1) p2)) (tPart (tUn (rU fun i => .int (-i)) (tC (.int 1)))) := po_some (pe_un un_neg pe_int)
  refine wpAny_Slice (thn (po_none.run pins s1 st H1 (fun o H2 => o = none ∧ H2 = H1) I1 ⟨rfl, rfl⟩) fun vl s2 ⟨l, H2, I2, pl, el, e2⟩ => ?_)
  subst el e2
  refine thn (po_none.run pins s2 st H2 (fun o H3 => o = none ∧ H3 = H2) I2 ⟨rfl, rfl⟩) fun vu s3 ⟨u, H3, I3, pu, eu, e3⟩ => ?_
  subst eu e3
  refine thn (hst.run pins s3 st H3 (fun o H4 => o = some (-1) ∧ H4 = H3) I3 ⟨1, rfl, -1, rfl, rfl, rfl⟩) fun vs s4 ⟨o, H4, I4, ps, eo, e4⟩ => ?_
  subst eo e4
  have I5 : Inv X pins st H4 { s4 with heap := s4.heap.push { cls := .type "slice", data := .fields #[vl, vu, vs] } } := I4.kept (t' := s4.toks) fun b ob q => Heap.get?_push_of_some _ q
  show wpAny (model X.prog X.w) X.A (subscriptTail e (.Slice none none (some (.UnaryOp .USub (.Constant (.int 1) k1 p1) p2)) p3) (.str (S a) t) (.ref s4.heap.objs.size)) (EP X pins st Q') X.xe { s4 with heap := s4.heap.push { cls := .type "slice", data := .fields #[vl, vu, vs] } }
  refine PyProof.Rows.tail_any (ops := [.str (S a) t, .ref s4.heap.objs.size]) (typeIs_str _ _ _) (F.slot_str_getitem.lookup) ?_ (by with_unfolding_all rfl)
  obtain ⟨l, rfl, hl⟩ := IsPart.raw pl
  obtain ⟨u, rfl, hu⟩ := IsPart.raw pu
  obtain ⟨z, rfl, hzz⟩ := IsPart.raw ps
  cases l with
  | some l => cases hl
  | none =>
    cases u with
    | some u => cases hu
    | none =>
      refine wpAny_getItem_str_slice (l := none) (u := none) (st := z) ⟨_, Heap.get?_push_size _ rfl, rfl, rfl⟩ (by rw [hzz]; decide) ?_
      have e1 : (slicePicked (S a) none none z).filterMap ((S a).cps[·]?) = a.reverse := by
        unfold slicePicked
        rw [hzz]
        show (sliceRange (((S a).length : Int) - 1) (-1) (-1)).filterMap ((S a).cps[·]?) = a.reverse
        rw [PySem.W.krv_sliceRange, PySem.W.krv_range, List.filterMap_reverse]
        have := PySem.W.krv_all (S a).cps
        rw [show (S a).length = (S a).cps.size from rfl, this]
      have e2 : sliceMade (S a) t none none z = .str (S a.reverse) := by
        unfold sliceMade
        rw [e1, hzz, if_neg (by rw [show ((some (-1 : Int)).getD 1 == 1) = false from rfl, Bool.false_and]; exact Bool.false_ne_true)]
      rw [e2]
      exact ⟨by rw [S_len, List.length_reverse, sizeLine_eq]; exact hz, .str (S a.reverse), H4, I5.tok _, ⟨_, rfl⟩, f _ _ σ1 Hh H4 g w1 (.str _) q⟩⟩
theorem tv_revS {k1 : Nat} {p1 p2 p3 : Pos} (h : TV c e ρ σ (.str a)) (hz : a.length ≤ 16777216) : TV c (.Subscript e (.Slice none none (some (.UnaryOp .USub (.Constant (.int 1) k1 p1) p2)) p3) pos) ρ σ (.str a.reverse) := ⟨fun q => te_revS (h.to ⟨a, rfl, hz, q⟩)⟩
/-! ### dicts written -/
theorem te_dict0 (h : ∀ p, σ p = none → Q (.ref p) (su σ p (.dct []))) : TE c (.Dict [] [] pos) ρ σ Q E := ⟨fun X hX st H K w r xc Q' f => cE_of pe_dnewK fun p hp =>
  f _ _ _ H _ (Gw.newC hp) ((w.push (o := .dK []) hp).add (c := .dct []) (none_of w.le hp) ⟨[], upd_same, .nil⟩) (.ref p) (h p (w.free hp))⟩
theorem tv_dict0 : TV c (.Dict [] [] pos) ρ σ (.dct []) := ⟨fun {Q E} q => te_frz (te_dict0 fun p hp => ⟨p, _, rfl, su_same, by rw [sd_su hp]; exact q⟩)⟩
/-- {k: v} -/
theorem te_dict1 (h : TE c k ρ σ (fun x σ1 => TE c v ρ σ1 (fun y σ2 => ∃ kk, x = dk kk ∧ ∀ p, σ2 p = none → Q (.ref p) (su σ2 p (.dct [(kk, y)]))) E) E) : TE c (.Dict [some k] [v] pos) ρ σ Q E := ⟨fun X hX st H K w r xc Q' f => by
  refine cE_of (pe_disp (pps_cons cE_pe cE_pe pps_nil) rfl rfl (by simp) (by simp)) fun p hp => ?_
  have hH : H p = none := none_of w.le hp
  have g0 : Gw H σ K H σ (upd K p (.dK [])) := Gw.push hp
  refine h.run X hX st H _ (w.push hp) r (xc.next g0) _ fun x dx σ1 H1 K1 g1 w1 rx h1 => ?_
  obtain ⟨e1, n1, m1⟩ := g1.hid (o := .dK []) upd_same (fun _ z => nomatch z) (w.free hp) hH
  refine h1.run X hX st H1 K1 w1 (r.same g1.b) (xc.next (g0.trans g1)) _ fun y dy σ2 H2 K2 g2 w2 ry ⟨kk, ek, q⟩ => ?_
  subst ek
  cases rx.key
  obtain ⟨e2, n2, m2⟩ := g2.hid e1 (fun _ z => nomatch z) n1 m1
  refine ⟨e2, [(keyD kk, y)], rfl, by simp, ?_⟩
  have gg := (g0.trans (g1.trans g2)).touch (o := .dK (mergeK [] [(keyD kk, y)])) hp
  exact f _ _ _ H2 _ (gg.add hp) ((w2.touch m2 n2 e2 (fun _ z => nomatch z)).add (c := .dct [(kk, dy)]) m2 ⟨_, upd_same, .cons ry .nil⟩) (.ref p) (q p n2)⟩
theorem tv_dict1 {kk : DK} (h1 : TV c k ρ σ (dk kk)) (h2 : TV c v ρ σ y) : TV c (.Dict [some k] [v] pos) ρ σ (.dct [(kk, y)]) := ⟨fun {Q E} q => te_frz (te_dict1 (h1.to (h2.to ⟨kk, rfl, fun p hp => ⟨p, _, rfl, su_same, by rw [sd_su hp]; exact q⟩⟩)))⟩
theorem tv_dict1S {s : List Nat} (h1 : TV c k ρ σ (.str s)) (h2 : TV c v ρ σ y) : TV c (.Dict [some k] [v] pos) ρ σ (.dct [(.inr s, y)]) := tv_dict1 (kk := .inr s) h1 h2
end
end Y

/-! Yd: dicts over trees; texts sorted, any number of them. -/
namespace Y
open PySem PySem.Spec PyProof.Rows L2 SX Z
/-- what stands at a key -/
def dvl (kvs : List (DK × DT)) (k : DK) : Option DT := (kvs.find? fun kv => decide (kv.1 = k)).map (·.2)
section
variable {F : PySem.W.Frag} {H : Hp}
theorem keyD_iff {a b : DK} : keyD a = keyD b ↔ a = b := ⟨keyD_inj, fun e => by rw [e]⟩
theorem RepK.val (k : DK) : ∀ {vs : List (Key × V)} {kvs : List (DK × DT)}, RepK F H vs kvs → (∀ d, dvl kvs k = some d → ∃ v, valV vs (keyD k) = some v ∧ Rep F H v d) ∧ (dvl kvs k = none → valV vs (keyD k) = none)
  | _, _, .nil => ⟨fun d e => (by cases e), fun _ => rfl⟩
  | _, _, .cons (k := k2) (vs := vs) (v := v0) (d := d0) (ds := ds) h t => by
    obtain ⟨i1, i2⟩ := RepK.val k t
    by_cases e : k2 = k
    · subst e
      have a : dvl ((k2, d0) :: ds) k2 = some d0 := by unfold dvl; rw [List.find?_cons, decide_eq_true rfl]; rfl
      rw [a, valV_pos rfl]
      exact ⟨fun d q => by cases q; exact ⟨_, rfl, h⟩, fun q => nomatch q⟩
    · have a : ∀ d, dvl ((k2, d) :: ds) k = dvl ds k := fun d => by unfold dvl; rw [List.find?_cons, decide_eq_false e]
      rw [a, valV_neg (fun z => e (keyD_inj z))]
      exact ⟨i1, i2⟩
theorem kV_dk (k : DK) : Rep F H (kV (keyD k)) (dk k) := rep_dk k
theorem RepK.keys : ∀ {vs : List (Key × V)} {kvs : List (DK × DT)}, RepK F H vs kvs → RepA F H (vs.map fun kv => kV kv.1) (kvs.map fun kv => dk kv.1)
  | _, _, .nil => .nil
  | _, _, .cons h t => .cons (rep_dk _) (RepK.keys t)
end
section
variable {c : Ct} {ρ : EnvT} {σ : Sg} {e a b : Expr} {pos p : Pos} {x d : DT} {k : DK} {kvs : List (DK × DT)} {Q : DT → Sg → Prop} {E : TX} {D : EndT} {p1 : Pos}
theorem con_room {X : Cx} (hX : Con c X) : X.A.units + 64 < cLine := by
  cases hX with
  | mk _ k' Wx fl hpp hrH hcf hh hp' ht hf hN hU hst => exact hunits hrH
theorem con_calm [Calm c] {X : Cx} (hX : Con c X) : X.calm = true := by
  cases hX with
  | mk _ k' Wx fl hpp hrH hcf hh hp' ht hf hN hU hst => exact (hcf ‹Calm _›.h).1
/-- d.get(k, x) -/
theorem pm_get2 (hx : DiT σ x kvs) : POM c "dict.get" x [dk k, d] σ ((dvl kvs k).getD d) := ⟨fun {Q} q => ⟨fun X hX H K w v vs rv ra Q' fo => by
  have hu := con_room hX
  cases hX
  obtain ⟨u, u2, rfl, rk, rd⟩ := repA_two ra
  obtain ⟨a, ws, rfl, q1, r1⟩ := hx.now w rv
  have ek := rk.key
  subst ek
  intro pins s st v2 us I r2 r3
  obtain ⟨z1, z2, rfl, y1, y2⟩ := vals2 r3
  cases r2
  refine d_get2 (by omega) I (.inl ⟨ws, keyD k, q1, rfl, rfl⟩) y1 y2 fun w' s3 I3 rw' => ?_
  obtain ⟨i1, i2⟩ := r1.val k
  cases hd : dvl kvs k with
  | some dd =>
    obtain ⟨vv, e1, e2⟩ := i1 dd hd
    rw [e1] at rw'
    exact ⟨vv, K, I3, rw', fo _ _ σ H K Gw.refl w e2 (by rw [hd] at q; exact q)⟩
  | none =>
    rw [i2 hd] at rw'
    exact ⟨u2, K, I3, rw', fo _ _ σ H K Gw.refl w rd (by rw [hd] at q; exact q)⟩⟩⟩
theorem pf_lenD (hx : DiT σ x kvs) : POF c (.builtin "len") [x] σ (.int (kvs.length : Int)) := ⟨fun X hX H K w vs r Q q => by
  cases hX
  obtain ⟨u, rfl, ru⟩ := repA_one r
  obtain ⟨a, ws, rfl, q1, r1⟩ := hx.now w ru
  intro pins s st us I r3
  obtain ⟨z, rfl, y⟩ := vals1 r3
  cases y
  refine d_len I q1 fun t s2 I2 => ⟨.int ws.length, K, I2, ⟨_, rfl⟩, ?_⟩
  rw [r1.length]
  exact q _ H K Gw.refl w (.int _)⟩
theorem pf_listD [Calm c] (hx : DiT σ x kvs) : POF c (.type "list") [x] σ (.lst (kvs.map fun kv => dk kv.1)) := ⟨fun X hX H K w vs r Q q => by
  have hc := con_calm hX
  cases hX
  obtain ⟨u, rfl, ru⟩ := repA_one r
  obtain ⟨a, ws, rfl, q1, r1⟩ := hx.now w ru
  refine cF_of (call_listD hc) ⟨a, ws, rfl, q1, fun p hp => ?_⟩
  obtain ⟨s2, w2⟩ := w.new (o := .lst (ws.map fun kv => kV kv.1)) hp
  exact q _ _ _ s2 w2 (.lst upd_same (r1.keys.same s2.b))⟩
end
/-! ### texts in ascending order -/
def srtT (l : List (List Nat)) : List (List Nat) := l.mergeSort fun a b => decide (a ≤ b)
theorem srtT_perm (l : List (List Nat)) : (srtT l).Perm l := List.mergeSort_perm l _
theorem srtT_pair (l : List (List Nat)) : (srtT l).Pairwise (· ≤ ·) := by
  have h := List.pairwise_mergeSort (le := fun a b : List Nat => decide (a ≤ b)) (fun a b c h1 h2 => decide_eq_true (List.le_trans (of_decide_eq_true h1) (of_decide_eq_true h2)))
    (fun a b => by
      rcases List.le_total a b with h | h
      · rw [decide_eq_true h]; rfl
      · rw [decide_eq_true h, Bool.or_true]) l
  exact h.imp fun h => of_decide_eq_true h
theorem srtT_uniq {l m : List (List Nat)} (h : m.Perm l) (s : m.Pairwise (· ≤ ·)) : m = srtT l := List.Perm.eq_of_pairwise (le := (· ≤ ·)) (fun a b _ _ h1 h2 => List.le_antisymm h1 h2) s (srtT_pair l) (h.trans (srtT_perm l).symm)
theorem srtT_same {l m : List (List Nat)} (h : l.Perm m) : srtT l = srtT m := srtT_uniq ((srtT_perm l).trans h) (srtT_pair l)
theorem S_codes (l : List Nat) : (S l).cps.toList = l := by simp [S]
theorem rising_pair : ∀ (p : List Nat) (l : List (List Nat)), risingS (S p) (l.map S) = true → (p :: l).Pairwise (· ≤ ·)
  | p, [], _ => List.pairwise_singleton _ _
  | p, x :: r, h => by
    have h' : (!ltCps (S x).cps.toList (S p).cps.toList && risingS (S x) (r.map S)) = true := h
    rw [Bool.and_eq_true] at h'
    have ih := rising_pair x r h'.2
    have le : p ≤ x := by
      have q := h'.1
      rw [PyProof.Rows.ltCps_eq, Bool.not_eq_true', decide_eq_false_iff_not, S_codes, S_codes] at q
      exact List.not_lt.mp q
    refine List.pairwise_cons.mpr ⟨fun y hy => ?_, ih⟩
    rcases List.mem_cons.mp hy with e | hy
    · rw [e]; exact le
    · exact List.le_trans le ((List.pairwise_cons.mp ih).1 y hy)
theorem sortedS_pair {l : List (List Nat)} (h : sortedS (l.map S) = true) : l.Pairwise (· ≤ ·) := by
  cases l with
  | nil => exact List.Pairwise.nil
  | cons x r => exact rising_pair x r h
/-- sorted(xs), texts, any number of them -/
def rSortedSA (K : PySem.W.Frag) : List V → Hp → VK → Prop := fun vs H Q => ∃ (a : Addr) (xs : List Str), vs = [V.ref a] ∧ SqL K H a (xs.map V.str) ∧
  ∀ (ys : List Str) (p : Addr), ys.Perm xs → sortedS ys = true → H p = none → Q (.ref p) (upd H p (.lst (ys.map V.str)))
theorem cr_sortedSA {X : Cx} : CallR X (.builtin "sorted") (rSortedSA X.K) := by
  intro pins s σ H vs us Q I r h
  obtain ⟨a, xs, rfl, hs, q⟩ := h
  obtain ⟨its, rv, hl, hz⟩ := I.list hs
  rw [Vals.ref1 r]
  have n0 := rv.length
  refine PyProof.Rows.sorted_strsAny hl.isList rv.strs (by rw [← n0]; exact hz) fun out ys h1 h2 h3 => ?_
  obtain ⟨ep, he'⟩ := PyProof.Rows.sortedAll_at s.heap its out
  have n1 : (ys.map V.str).length ≤ sizeLine := by
    rw [List.length_map, h2.length_eq, ← List.length_map (f := V.str)]
    exact hz
  exact ⟨.ref _, _, I.laid (t' := s.toks) (o := .lst (ys.map V.str)) (fun _ _ => PyProof.Rows.sortedAll_old) (Nat.le_succ _) ⟨n1, out.toList, ep, vals_of_strs h1, he'⟩, rfl, q ys _ h2 h3 (I.hok.fresh (Nat.le_succ _))⟩
theorem perm_S {ys : List Str} {l : List (List Nat)} (h : ys.Perm (l.map S)) : ys = (ys.map fun y => y.cps.toList).map S := by
  rw [List.map_map]
  conv => lhs; rw [← List.map_id ys]
  refine List.map_congr_left fun y _ => ?_
  exact (S_tl y).symm
theorem pf_sortedT {c : Ct} {σ : Sg} {x : DT} {l : List (List Nat)} (hx : LsT σ x (l.map DT.str)) : POF c (.builtin "sorted") [x] σ (.lst ((srtT l).map DT.str)) := ⟨fun X hX H K w vs r Q q => by
  cases hX
  obtain ⟨u, rfl, ru⟩ := repA_one r
  obtain ⟨a, ws, rfl, q1, r1⟩ := hx.now w ru
  rw [repA_strs r1] at q1
  have e1 : (l.map fun z => V.str (S z)) = (l.map S).map V.str := by rw [List.map_map]; rfl
  rw [e1] at q1
  refine cF_of cr_sortedSA ⟨a, l.map S, rfl, q1, fun ys p h1 h2 hp => ?_⟩
  have e2 := perm_S h1
  have e3 : (ys.map fun y => y.cps.toList).Perm l := by
    have := h1.map (fun y : Str => y.cps.toList)
    rw [List.map_map] at this
    have e : (l.map ((fun y : Str => y.cps.toList) ∘ S)) = l := by
      conv => rhs; rw [← List.map_id l]
      exact List.map_congr_left fun y _ => S_codes y
    rwa [e] at this
  have e4 := srtT_uniq e3 (sortedS_pair (by rw [← e2]; exact h2))
  obtain ⟨s2, w2⟩ := w.new (o := .lst (ys.map V.str)) hp
  refine q _ _ _ s2 w2 (.lst upd_same ?_)
  rw [e2, e4, List.map_map]
  exact repA_of _ DT.str (fun z => .str z) (srtT l)⟩
end Y
namespace Y
open PySem PySem.Spec PyProof.Rows L2 SX Z
section
variable {c : Ct} {ρ : EnvT} {σ : Sg} {e a b : Expr} {pos p p2 : Pos} {x d : DT} {k : DK} {kvs : List (DK × DT)} {Q : DT → Sg → Prop} {E : TX} {D : EndT} {p1 : Pos}
/-- d[k] -/
theorem te_dix (h : TE c a ρ σ (fun x σ1 => TE c b ρ σ1 (fun y σ2 => ∃ kvs k d, DiT σ2 x kvs ∧ y = dk k ∧ dvl kvs k = some d ∧ Q d σ2) E) E) (hs : NoSl b) : TE c (.Subscript a b pos) ρ σ Q E := ⟨fun X hX st H K w r xc Q' fo => by
  have hu := con_room hX
  refine cE_of (pe_dget (by omega) cE_pe cE_pe hs) ?_
  refine h.run X hX st H K w r xc _ fun v x σ1 H1 K1 s1 w1 r1 h1 => ?_
  refine h1.run X hX st H1 K1 w1 (r.same s1.b) (xc.next s1) _ fun u y σ2 H2 K2 s2 w2 r2 ⟨kvs, k, d, hx, ey, hd, q⟩ => ?_
  subst ey
  obtain ⟨p, ws, rfl, q1, ra⟩ := hx.now w2 (r1.same s2.b)
  obtain ⟨vv, e1, e2⟩ := (ra.val k).1 d hd
  exact ⟨p, vv, rfl, .inl ⟨ws, keyD k, q1, r2.key, e1.symm⟩, fo _ _ σ2 H2 K2 (s1.trans s2) w2 e2 q⟩⟩
theorem tv_dix (ha : TV c a ρ σ x) (hb : TV c b ρ σ (dk k)) (hx : DiT σ x kvs) (hd : dvl kvs k = some d) (hs : NoSl b := by exact fun _ _ => rfl) : TV c (.Subscript a b pos) ρ σ d := ⟨fun q => te_dix (ha.to (hb.to ⟨kvs, k, d, hx, rfl, hd, q⟩)) hs⟩
theorem po_inD (hx : DiT σ x kvs) : PO2 c (compareOp .In) (dk k) x σ (.bl (dvl kvs k).isSome) := ⟨fun X hX H K w v u rv ru Q q => by
  have hu := con_room hX
  cases hX
  have ek := rv.key
  subst ek
  obtain ⟨p, ws, rfl, q1, ra⟩ := hx.now w ru
  intro pins s st v1 v2 I y1 y2
  cases y2
  refine d_in (by omega) I (.inl ⟨ws, keyD k, q1, rfl, rfl⟩) y1 fun s2 I2 => ⟨.bl _, K, I2, rfl, ?_⟩
  have e : (valV ws (keyD k)).isSome = (dvl kvs k).isSome := by
    obtain ⟨i1, i2⟩ := ra.val k
    cases hd : dvl kvs k with
    | some dd => obtain ⟨vv, e1, _⟩ := i1 dd hd; rw [e1]; rfl
    | none => rw [i2 hd]; rfl
  rw [e]
  exact q _ H K Gw.refl w (.bl _)⟩
theorem po_notInD (hx : DiT σ x kvs) : PO2 c (compareOp .NotIn) (dk k) x σ (.bl (!(dvl kvs k).isSome)) := ⟨fun X hX H K w v u rv ru Q q => by
  have hu := con_room hX
  cases hX
  have ek := rv.key
  subst ek
  obtain ⟨p, ws, rfl, q1, ra⟩ := hx.now w ru
  intro pins s st v1 v2 I y1 y2
  cases y2
  refine d_notIn (by omega) I (.inl ⟨ws, keyD k, q1, rfl, rfl⟩) y1 fun s2 I2 => ⟨.bl _, K, I2, rfl, ?_⟩
  have e : (valV ws (keyD k)).isSome = (dvl kvs k).isSome := by
    obtain ⟨i1, i2⟩ := ra.val k
    cases hd : dvl kvs k with
    | some dd => obtain ⟨vv, e1, _⟩ := i1 dd hd; rw [e1]; rfl
    | none => rw [i2 hd]; rfl
  rw [e]
  exact q _ H K Gw.refl w (.bl _)⟩
/-- d[k] = v, a dict that may change -/
theorem ts_setItemD (h : TE c e ρ σ (fun v σ1 => TE c a ρ σ1 (fun o σ2 => TE c b ρ σ2 (fun i σ3 => ∃ p kvs k, o = .ref p ∧ i = dk k ∧ σ3 p = some (.dct kvs) ∧ kvs.length < 16777216 ∧ D.nx ρ (su σ3 p (.dct (putT kvs k v)))) (xD D ρ)) (xD D ρ)) (xD D ρ))
    (ha : ∀ env v, assign (.Subscript a b p1) env v = (do
      let ov ← holding [v] (eval a env)
      let iv ← holding [v, ov] (eval b env)
      standAt p1
      holding [v, ov, iv] (setItem ov iv v)
      release [v, ov, iv] []) := by intro _ _; rfl) (hsw : ∀ env, swapsWithSole [.Subscript a b p1] e pos.line env = pure false := by intro _; rfl) (hst : ∀ env, swappedStores [.Subscript a b p1] e env = pure none := by intro _; rfl)
    (has : ∀ env, (assignEach [.Subscript a b p1] env).map (·.2) = [assign (.Subscript a b p1) env] := by intro _; rfl) : TS c (.Assign [.Subscript a b p1] e pos) ρ σ D := ⟨fun X hX st H K w re D' f => by
  have hu := con_room hX
  refine cS_of (ps_asg cE_pe (pg_sub cE_pe cE_pe (set_dict (by omega)) (ha _)) (hsw _) (hst _) (has _)) ?_
  refine h.run X hX st H K w re (f.xc re) _ fun v d σ1 H1 K1 g1 w1 rv h1 => ?_
  refine h1.run X hX st H1 K1 w1 (re.same g1.b) ((f.next g1).xc (re.same g1.b)) _ fun o dO σ2 H2 K2 g2 w2 ro h2 => ?_
  have g12 := g1.trans g2
  refine h2.run X hX st H2 K2 w2 (re.same g12.b) ((f.next g12).xc (re.same g12.b)) _ fun i di σ3 H3 K3 g3 w3 ri ⟨p, kvs, k, e1, e2, e3, e4, q⟩ => ?_
  subst e1 e2
  cases ro
  have g := g12.trans g3
  obtain ⟨vs, e5, ra⟩ := w3.on p _ e3
  refine ⟨p, _, rfl, .inl ⟨vs, keyD k, e5, ri.key, by rw [ra.length, sizeLine_eq]; exact e4, rfl⟩, ?_⟩
  exact f.nx _ _ _ H3 _ (g.trans (Gw.write e3)) (w3.write e3 (c' := .dct (putT kvs k d)) ⟨_, upd_same, ra.put k (rv.same (g2.trans g3).b)⟩) (re.same g.b) q⟩
/-- dict(d): a copy, that may change -/
theorem te_dictD (hg : GlS c "dict") (hm : c.mg "dict" = none) (h : TE c a ρ σ (fun x σ1 => ∃ kvs, DiT σ1 x kvs ∧ ∀ q, σ1 q = none → Q (.ref q) (su σ1 q (.dct kvs))) E)
    (he : ∀ env, starEach [a] env = (false, eval a env) :: starEach [] env := by intro _; rfl) (hpl : ∀ pos env, (backTo pos (starEach [] env)).any (·.1) = false := by intro _ _; rfl) : TE c (.Call (.Name "dict" p) [a] [] pos) ρ σ Q E := ⟨fun X hX st H K w r xc Q' fo => by
  have hX' := hX
  cases hX'
  refine cE_of (pe_callTy call_dictD hg hm (by exact bt_dict) (cA_pa (e := [a])) (by decide) (by decide) (he _) (hpl _ _)) ?_
  refine (ta_cons (QA := fun ds σ1 => ∃ x kvs, ds = [x] ∧ DiT σ1 x kvs ∧ ∀ q, σ1 q = none → Q (.ref q) (su σ1 q (.dct kvs))) (h.imp fun x σ1 ⟨kvs, h1, h2⟩ => ta_nil ⟨x, kvs, rfl, h1, h2⟩) he).run X hX st H K w r xc _ fun vs ds σ1 H1 K1 s1 w1 r1 ⟨x, kvs, ed, hx, q⟩ => ?_
  subst ed
  obtain ⟨u, rfl, ru⟩ := repA_one r1
  obtain ⟨p, ws, rfl, q1, ra⟩ := hx.now w1 ru
  refine ⟨p, ws, rfl, q1, fun z hz => ?_⟩
  exact fo _ _ _ H1 _ (s1.trans (Gw.newC hz)) ((w1.push (o := .dK ws) hz).add (c := .dct kvs) (none_of w1.le hz) ⟨ws, upd_same, ra⟩) (.ref z) (q z (w1.free hz))⟩
theorem tv_dictD (hg : GlS c "dict") (hm : c.mg "dict" = none) (ha : TV c a ρ σ x) (hx : DiT σ x kvs) (he : ∀ env, starEach [a] env = (false, eval a env) :: starEach [] env := by intro _; rfl) : TV c (.Call (.Name "dict" p) [a] [] pos) ρ σ (.dct kvs) := ⟨fun {Q E} q => te_frz (te_dictD hg hm (ha.to ⟨kvs, hx, fun z hz => ⟨z, _, rfl, su_same, by rw [sd_su hz]; exact q⟩⟩) he)⟩
end
end Y

/-! Yo: instances of own classes over trees. -/
namespace Y
open PySem PySem.Spec PyProof.Rows L2 SX Z
section
variable {F : PySem.W.Frag} {H : Hp}
theorem RepF.none {x : Str} : ∀ {vs : List (Str × V)} {ds : List (Str × DT)}, RepF F H vs ds → ds.lookup x = none → vs.lookup x = none
  | _, _, .nil, _ => rfl
  | _, _, .cons (k := k) h t, e => by
    rw [List.lookup_cons] at e ⊢
    cases z : x == k with
    | true => rw [z] at e; cases e
    | false => rw [z] at e; exact RepF.none t e
theorem RepF.len : ∀ {vs : List (Str × V)} {ds : List (Str × DT)}, RepF F H vs ds → vs.length = ds.length
  | _, _, .nil => rfl
  | _, _, .cons _ t => congrArg (· + 1) (RepF.len t)
end
/-- what is an instance of C with these fields -/
def ObX (σ : Sg) (x : DT) (C : Addr) (fs : List (Str × DT)) : Prop := x = .obj C fs ∨ ∃ p, x = .ref p ∧ σ p = some (.obj C fs)
theorem ObX.now {F : PySem.W.Frag} {H K : Hp} {σ : Sg} {x : DT} {C : Addr} {fs : List (Str × DT)} {v : V} (l : ObX σ x C fs) (w : Wd F H σ K) (r : Rep F H v x) : ∃ a dx vs, v = .ref a ∧ K a = some (.ins C dx vs) ∧ RepF F H vs fs := by
  rcases l with rfl | ⟨p, rfl, h⟩
  · cases r with
    | obj h1 h2 ra => exact ⟨_, _, _, rfl, w.le _ _ h1, ra⟩
  · cases r
    obtain ⟨dx, vs, h1, _, ra⟩ := w.on p _ h
    exact ⟨p, dx, vs, rfl, h1, ra⟩
/-- a method's promise -/
def DtM (P : Program) (w : World) (F : PySem.W.Frag) (mg : Str → Option Value) (base : Heap) (C : Addr) (m : Str) (ps : List Str) (k : Nat) (spec : TSpec) : Prop := ∃ f fd, Meth F C m f ∧ Binds F fd ps [] ∧ FnG P w F mg base k f fd ps (spT F spec)
/-- an __init__'s promise -/
def DtI (P : Program) (w : World) (F : PySem.W.Frag) (mg : Str → Option Value) (base : Heap) (C : Addr) (ps : List Str) (k : Nat) (spec : TSpec) : Prop := ∃ f fd, Mk F C f ∧ Binds F fd ps [] ∧ FnG P w F mg base k f fd ps (spT F spec)
/-- a property's promise -/
def DtP (P : Program) (w : World) (F : PySem.W.Frag) (mg : Str → Option Value) (base : Heap) (C : Addr) (m : Str) (k : Nat) (spec : TSpec) : Prop := ∃ pr g fd, PropOf F C m pr g ∧ Binds F fd ["self"] [] ∧ FnG P w F mg base k g fd ["self"] (spT F spec)
section
variable {c : Ct} {ρ : EnvT} {σ : Sg} {Q : DT → Sg → Prop} {E : TX} {e a o : Expr} {es : List Expr} {pos p apos : Pos} {d x : DT} {C : Addr} {fs : List (Str × DT)} {f m : Str} {k : Nat} {ps : List Str} {spec : TSpec} {D : EndT}
/-- o.f -/
theorem te_fld (h : TE c e ρ σ (fun x σ1 => ∃ C fs y, ObX σ1 x C fs ∧ Cls c.K C ∧ NoAttr c.K C f ∧ fs.lookup f = some y ∧ Q y σ1) E) (hb : ∀ env, attributeBase e f env (eval e env) = eval e env := by intro _; rfl) : TE c (.Attribute e f pos) ρ σ Q E := ⟨fun X hX st H K w r xc Q' fo => by
  have hX' := hX
  cases hX'
  refine cE_of (pe_fld cE_pe (hb _)) ?_
  refine h.run X hX st H K w r xc _ fun v x σ1 H1 K1 s1 w1 r1 ⟨C, fs, y, ho, hc, hn, hl, q⟩ => ?_
  obtain ⟨a, dx, vs, rfl, ea, ra⟩ := ho.now w1 r1
  obtain ⟨u, l, ru⟩ := ra.lookup hl
  exact ⟨a, C, dx, vs, u, rfl, ea, hc, hn, l, fo _ _ σ1 H1 K1 s1 w1 ru q⟩⟩
theorem tv_fld {y : DT} (ha : TV c e ρ σ x) (ho : ObX σ x C fs) (hc : Cls c.K C) (hn : NoAttr c.K C f) (hl : fs.lookup f = some y) (hb : ∀ env, attributeBase e f env (eval e env) = eval e env := by intro _; rfl) : TV c (.Attribute e f pos) ρ σ y := ⟨fun q => te_fld (ha.to ⟨C, fs, y, ho, hc, hn, hl, q⟩) hb⟩
/-- o.m(e, ..) -/
theorem te_own_m [Calm c] (mt : DtM c.P c.w c.K c.mg c.base C m ps k spec) (hk : k ≤ c.k) (hc : Cls c.K C)
    (h : TE c o ρ σ (fun x σ1 => ∃ fs, x = .obj C fs ∧ fs.lookup m = none ∧ TA c (a :: es) ρ σ1 (fun ds σ2 => spec (.obj C fs :: ds) σ2 Q E) E) E)
    (heq : ∀ env, ∃ pl : Sem Bool, eval (.Call (.Attribute o m apos) (a :: es) [] pos) env = (do
      let ov ← eval o env
      standAt apos.atName
      let (f, first) ← holding [ov] (getMethod ov m pl)
      callWith pos f first (backTo pos (starEach (a :: es) env)) (backToKw pos (keywordEach [] env))))
    (he : ∀ env, starEach (a :: es) env = (false, eval a env) :: starEach es env := by intro _; rfl) (hpl : ∀ pos env, (backTo pos (starEach es env)).any (·.1) = false := by intro _ _; rfl) : TE c (.Call (.Attribute o m apos) (a :: es) [] pos) ρ σ Q E := ⟨fun X hX st H K w r xc Q' fo => fun pins s I => by
  obtain ⟨f, fd, hm, hb, F⟩ := mt
  have hX' := hX
  cases hX' with
  | mk _ k' Wx fl hpp hrH hcf hh hp' ht hf hN hU hst =>
    obtain rfl : hpp = none := ‹Calm _›.h
    obtain ⟨hcc, hr⟩ := hcf rfl
    obtain ⟨pl, heq⟩ := heq X.env
    refine PySem.W.methodCall_KW (pl := pl) (thn (h.run X hX st H K w r xc (fun v K1 => ∃ fs σ1 H1, Gw H σ K H1 σ1 K1 ∧ Wd X.K H1 σ1 K1 ∧ Rep X.K H1 v (.obj C fs) ∧ fs.lookup m = none ∧ TA ⟨X.prog, X.w, X.K, X.mg, X.base, X.N, X.env.scope, k', Wx, fl, none⟩ (a :: es) ρ σ1 (fun ds σ2 => spec (.obj C fs :: ds) σ2 Q E) E)
      (fun v x σ1 H1 K1 s1 w1 r1 ⟨fs, ex, l, hA⟩ => by subst ex; exact ⟨fs, σ1, H1, s1, w1, r1, l, hA⟩) pins s I) fun u s1 ⟨v, K1, I1, rv, fs, σ1, H1, g1, w1, r1, l, hA⟩ => ?_) heq
    cases r1 with
    | @obj ad _ dx vs _ ea ed rf =>
      cases rv
      refine getmeth_ok I1 (w1.le _ _ ea) hc hm (rf.none l) ?_
      refine PySem.W.callWith_K (first := [.ref ad]) (h₀ := X.base) I.ok.mod.kin hm.kp (thn (hA.run X hX st H1 K1 w1 (r.same g1.b) (xc.next g1) (fun vs K2 => ∃ ds σ2 H2, Gw H1 σ1 K1 H2 σ2 K2 ∧ Wd X.K H2 σ2 K2 ∧ RepA X.K H2 vs ds ∧ spec (.obj C fs :: ds) σ2 Q E)
        (fun vs ds σ2 H2 K2 s2 w2 r2 q => ⟨ds, σ2, H2, s2, w2, r2, q⟩) pos pins s1 I1) fun us s2 ⟨vs, K2, I2, rr, ds, σ2, H2, g2, w2, ra, q⟩ => ⟨I2.kIn, ?_⟩) (he _) (hpl _ _)
      exact runG (us := .ref ad :: us) (vs := .ref ad :: vs) F (hr.mono hk) hU ht hb I2 (.cons rfl rr) ⟨.obj C fs :: ds, H2, σ2, Q, E, w2, .cons (Rep.same g2.b (Rep.obj ea ed rf)) ra, q, fun v d σ' H' K' s => fo v d σ' H' K' (g1.trans (g2.trans s)), fun cls dA x σ' H' K' s => xc cls dA x σ' H' K' (g1.trans (g2.trans s))⟩⟩
end
end Y
namespace Y
open PySem PySem.Spec PyProof.Rows L2 SX Z
/-- o.f = v -/
def putFT (f : Str) (d : DT) : List (Str × DT) → List (Str × DT)
  | [] => [(f, d)]
  | (g, x) :: r => if g = f then (g, d) :: r else (g, x) :: putFT f d r
theorem RepF.put {F : PySem.W.Frag} {H : Hp} {f : Str} {v : V} {d : DT} (h : Rep F H v d) : ∀ {vs : List (Str × V)} {ds : List (Str × DT)}, RepF F H vs ds → RepF F H (putF f v vs) (putFT f d ds)
  | _, _, .nil => .cons h .nil
  | _, _, .cons (k := g) r t => by
    unfold putF putFT
    by_cases e : g = f
    · rw [if_pos e, if_pos e]; exact .cons h t
    · rw [if_neg e, if_neg e]; exact .cons r (RepF.put h t)
section
variable {c : Ct} {ρ : EnvT} {σ : Sg} {Q : DT → Sg → Prop} {E : TX} {e a o : Expr} {es : List Expr} {pos p apos : Pos} {d x : DT} {C : Addr} {fs : List (Str × DT)} {f m : Str} {k : Nat} {ps : List Str} {spec : TSpec} {D : EndT}
theorem ts_setFld (h : TE c e ρ σ (fun v σ1 => TE c o ρ σ1 (fun x σ2 => ∃ p C fs, x = .ref p ∧ σ2 p = some (.obj C fs) ∧ Cls c.K C ∧ NoAttr c.K C f ∧ fs.length < 1000 ∧ D.nx ρ (su σ2 p (.obj C (putFT f v fs)))) (xD D ρ)) (xD D ρ))
    (hs : ∀ env, swapsWith e (some (.Attribute o f apos)) pos.line env = pure false := by intro _; rfl) : TS c (.Assign [.Attribute o f apos] e pos) ρ σ D := ⟨fun X hX st H K w re D' g => by
  have hX' := hX
  cases hX'
  refine cS_of (ps_fld cE_pe cE_pe (hs _)) ?_
  refine h.run X hX st H K w re (g.xc re) _ fun v d σ1 H1 K1 g1 w1 rv h1 => ?_
  refine h1.run X hX st H1 K1 w1 (re.same g1.b) ((g.next g1).xc (re.same g1.b)) _ fun x dx σ2 H2 K2 g2 w2 rx ⟨p, C, fs, e1, e2, hc, hn, hl, q⟩ => ?_
  subst e1
  cases rx
  obtain ⟨dd, vs, h3, h4, rf⟩ := w2.on p _ e2
  have ne : p ≠ dd := fun z => by rw [← z, h3] at h4; cases h4
  refine ⟨p, C, dd, vs, rfl, h3, hc, hn, by rw [rf.len]; exact hl, ?_⟩
  exact g.nx _ _ _ H2 _ ((g1.trans g2).trans (Gw.write e2)) (w2.write e2 (c' := .obj C (putFT f d fs)) ⟨dd, _, upd_same, by rw [upd_ne ne.symm]; exact h4, RepF.put (rv.same g2.b) rf⟩) (re.same (g1.trans g2).b) q⟩
/-- C(e, ..): the new instance may change until it is read off -/
theorem te_make [Calm c] {n : Str} (mt : DtI c.P c.w c.K c.mg c.base C ps k spec) (hk : k + 1 ≤ c.k) (hg : GlS c n) (hm : c.mg n = some (.ref C))
    (h : TA c (a :: es) ρ σ (fun ds σ1 => ∀ p, σ1 p = none → spec (.ref p :: ds) (su σ1 p (.obj C [])) (fun v σ2 => v = .non ∧ Q (.ref p) σ2) E) E) (hdb : (n == ("__debug__" : Str)) = false := by decide)
    (he : ∀ env, starEach (a :: es) env = (false, eval a env) :: starEach es env := by intro _; rfl) (hpl : ∀ pos env, (backTo pos (starEach es env)).any (·.1) = false := by intro _ _; rfl) : TE c (.Call (.Name n p) (a :: es) [] pos) ρ σ Q E := ⟨fun X hX st H K w r xc Q' fo => fun pins s I => by
  obtain ⟨f, fd, M, hb, F⟩ := mt
  have hX' := hX
  cases hX' with
  | mk _ k' Wx fl hpp hrH hcf hh hp' ht hf hN hU hst =>
    obtain rfl : hpp = none := ‹Calm _›.h
    obtain ⟨hcc, hr⟩ := hcf rfl
    refine wpAny_Call_Name_kw (ld_glob I hg hm ?_ hdb)
    refine PySem.W.callWith_K (h₀ := X.base) I.ok.mod.kin M.kp (thn (h.run X hX st H K w r xc (fun vs K1 => ∃ ds σ1 H1, Gw H σ K H1 σ1 K1 ∧ Wd X.K H1 σ1 K1 ∧ RepA X.K H1 vs ds ∧ ∀ p, σ1 p = none → spec (.ref p :: ds) (su σ1 p (.obj C [])) (fun v σ2 => v = .non ∧ Q (.ref p) σ2) E)
      (fun vs ds σ1 H1 K1 s1 w1 r1 q => ⟨ds, σ1, H1, s1, w1, r1, q⟩) pos pins _ I) fun us s1 ⟨vs, K1, I1, rr, ds, σ1, H1, g1, w1, ra, q⟩ => ⟨I1.kIn, ?_⟩) (he _) (hpl _ _)
    have n1 : K1 (s1.heap.objs.size + 1) = none := I1.hok.fresh (Nat.le_succ _)
    have n0 : K1 s1.heap.objs.size = none := I1.hok.fresh (Nat.le_refl _)
    have ne : s1.heap.objs.size ≠ s1.heap.objs.size + 1 := Nat.ne_of_lt (Nat.lt_succ_self _)
    have I2 := Inv.made (C := C) I1
    have q2 := q (s1.heap.objs.size + 1) (w1.free n1)
    have w2 := w1.push (o := .own (s1.heap.objs.size + 1)) n0
    have n2 : upd K1 s1.heap.objs.size (.own (s1.heap.objs.size + 1)) (s1.heap.objs.size + 1) = none := by rw [upd_ne ne.symm]; exact n1
    have w3 := (w2.push (o := .ins C s1.heap.objs.size []) n2).add (c := .obj C []) (none_of w1.le n1) ⟨s1.heap.objs.size, [], upd_same, by rw [upd_ne ne]; exact upd_same, .nil⟩
    have g3 := (g1.trans (Gw.push (H := H1) (σ := σ1) (o := .own (s1.heap.objs.size + 1)) n0)).trans (Gw.newC (c := .obj C []) (o := .ins C s1.heap.objs.size []) n2)
    have r2 : Vals (V.ref (s1.heap.objs.size + 1) :: vs) (Value.ref (s1.heap.objs.size + 1) :: us) := .cons rfl rr
    have sp2 : spT X.K spec (V.ref (s1.heap.objs.size + 1) :: vs) (upd (upd K1 s1.heap.objs.size (.own (s1.heap.objs.size + 1))) (s1.heap.objs.size + 1) (.ins C s1.heap.objs.size [])) (fun v K2 => v = .non ∧ Q' (.ref (s1.heap.objs.size + 1)) K2) (WE Wx st) :=
      ⟨.ref (s1.heap.objs.size + 1) :: ds, H1, _, _, E, w3, .cons (.ref _) ra, q2, fun v d σ' H' K' s w' rv ⟨e1, q3⟩ => by
        subst e1
        cases rv
        exact ⟨rfl, fo _ _ σ' H' K' (g3.trans s) w' (.ref _) q3⟩, fun cls dA x σ' H' K' s => xc cls dA x σ' H' K' (g3.trans s)⟩
    have hl : (Value.ref (s1.heap.objs.size + 1) :: us ++ ([] : List Value)).length = ps.length := by
      rw [List.append_nil, ← r2.length]
      exact F.len _ _ _ _ sp2
    have b := hb _ (Value.ref (s1.heap.objs.size + 1) :: us) I2.kIn hl
    rw [List.append_nil] at b
    refine wpAny_call (make_map (f := f) I1.kIn M.makes M.init (beq_iff_eq.mp M.fn) (codeAny_mono (F.calm _ ((hr.mono hk).make C us []) hU X.stack _ _ (I2.env0.make C us []) ⟨Value.ref (s1.heap.objs.size + 1) :: us, []⟩ _ _ r2 b _ _ sp2) fun res s2 z => ?_))
    match res, z with
    | .error er, z => exact L2N.passAt ht st pins _ _ er s2 I2 z
    | .ok (.ret u), z =>
      obtain ⟨v, K3, I3, rv, ev, q3⟩ := I2.after z
      subst ev
      exact ⟨rv, ⟨V.ref (s1.heap.objs.size + 1), K3, I3, rfl, q3⟩⟩
    | .ok .next, z => exact z.elim
    | .ok .brk, z => exact z.elim
    | .ok .cont, z => exact z.elim⟩
end
end Y
namespace Y
open PySem PySem.Spec PyProof.Rows L2 SX Z
section
variable {c : Ct} {ρ : EnvT} {σ : Sg} {Q : DT → Sg → Prop} {E : TX} {e a o : Expr} {es : List Expr} {pos p apos : Pos} {d x : DT} {C : Addr} {fs : List (Str × DT)} {f m : Str} {k : Nat} {ps : List Str} {spec : TSpec} {D : EndT}
/-- e.f, a property: no error may leave its getter -/
theorem te_prop [Calm c] (mt : DtP c.P c.w c.K c.mg c.base C f k spec) (hk : k + 1 ≤ c.k) (hc : Cls c.K C) (h : TE c e ρ σ (fun x σ1 => ∃ fs, x = .obj C fs ∧ spec [.obj C fs] σ1 Q TX0) E)
    (hab : ∀ env, attributeBase e f env (eval e env) = eval e env := by intro _; rfl) : TE c (.Attribute e f pos) ρ σ Q E := ⟨fun X hX st H K w r xc Q' fo => fun pins s I => by
  obtain ⟨pr, g, fd, hp, hb, F⟩ := mt
  have hX' := hX
  cases hX' with
  | mk _ k' Wx fl hpp hrH hcf hh hp' ht hf hN hU hst =>
    obtain rfl : hpp = none := ‹Calm _›.h
    obtain ⟨hcc, hr⟩ := hcf rfl
    refine attr_of (hab _) (thn (h.run X hX st H K w r xc (fun v K1 => ∃ fs σ1 H1, Gw H σ K H1 σ1 K1 ∧ Wd X.K H1 σ1 K1 ∧ Rep X.K H1 v (.obj C fs) ∧ spec [.obj C fs] σ1 Q TX0)
      (fun v x σ1 H1 K1 s1 w1 r1 ⟨fs, ex, q⟩ => by subst ex; exact ⟨fs, σ1, H1, s1, w1, r1, q⟩) pins s I) fun u s1 ⟨v, K1, I1, rv, fs, σ1, H1, g1, w1, r1, q⟩ => ?_)
    have r1' := r1
    cases r1' with
    | @obj ad _ dx vs _ ea ed rf =>
      cases rv
      obtain ⟨mA, O, _, _, _, _⟩ := ins_get I1.hok (w1.le _ _ ea)
      obtain ⟨od, J, _⟩ := O.look
      obtain ⟨rest, hrec⟩ := hp.rec_
      have I2 := I1.tok (s1.toks + 1)
      have ic : (PySem.W.clsIn X.K C).isSome = true := by
        obtain ⟨cd, hcd, _⟩ := PySem.W.any_some hc.hd
        rw [hcd]
        rfl
      have sp2 : spT X.K spec [V.ref ad] K1 Q' (fun _ _ _ => False) := ⟨[.obj C fs], H1, σ1, Q, TX0, w1, .cons r1 .nil, q, fun v d σ' H' K' s => fo v d σ' H' K' (g1.trans s), fun cls dA x σ' H' K' _ _ _ z => z⟩
      have bnd := hb { s1 with toks := s1.toks + 1 } [Value.ref ad] I2.kIn rfl
      refine PySem.W.get_bind I1.kIn J (PySem.W.plainGet_of (hc.get f)).1 (PySem.W.findObj_data ic hp.at_ hp.get hp.tak) (PySem.W.plainGet_of (hc.get f)).2 (wpAny_call (PySem.W.prop_get (s := { s1 with toks := s1.toks + 1 }) I1.kIn hrec ?_))
      refine codeAny_mono (F.calm X.A.in1 ((hr.mono hk).in1) hU X.stack _ _ I2.env0.in1 ⟨[.ref ad], []⟩ [.ref ad] [.ref ad] (.cons rfl .nil) bnd _ _ sp2) fun res s2 z => ?_
      match res, z with
      | .error er, z =>
        obtain ⟨_, _, _, _, _, _, _, _, _, _, _, _, n⟩ := z
        exact n.elim
      | .ok (.ret u2), z =>
        obtain ⟨v2, K3, I3, rv, q3⟩ := I2.after z
        show wpAny _ _ (handedOut u2) _ _ _
        rw [PySem.W.handedOut_of (handed_of rv)]
        exact wpAny_pure ⟨v2, K3, I3, rv, q3⟩
      | .ok .next, z => exact z.elim
      | .ok .brk, z => exact z.elim
      | .ok .cont, z => exact z.elim⟩
/-- .. whose answer is a value of the object -/
theorem tv_prop [Calm c] (mt : DtP c.P c.w c.K c.mg c.base C f k spec) (hk : k + 1 ≤ c.k) (hc : Cls c.K C) (ha : TV c e ρ σ (.obj C fs)) (hs : ∀ {Q : DT → Sg → Prop} {E : TX}, Q d σ → spec [.obj C fs] σ Q E)
    (hab : ∀ env, attributeBase e f env (eval e env) = eval e env := by intro _; rfl) : TV c (.Attribute e f pos) ρ σ d := ⟨fun q => te_prop mt hk hc (ha.to ⟨fs, rfl, hs q⟩) hab⟩
theorem tv_make [Calm c] {n : Str} {ds : List DT} (mt : DtI c.P c.w c.K c.mg c.base C ps k spec) (hk : k + 1 ≤ c.k) (hg : GlS c n) (hm : c.mg n = some (.ref C)) (ha : TVA c (a :: es) ρ σ ds)
    (hs : ∀ {Q : DT → Sg → Prop} {E : TX} (p : Addr), σ p = none → Q .non (su σ p (.obj C fs)) → spec (.ref p :: ds) (su σ p (.obj C [])) Q E) (hdb : (n == ("__debug__" : Str)) = false := by decide)
    (he : ∀ env, starEach (a :: es) env = (false, eval a env) :: starEach es env := by intro _; rfl) (hpl : ∀ pos env, (backTo pos (starEach es env)).any (·.1) = false := by intro _ _; rfl) : TV c (.Call (.Name n p) (a :: es) [] pos) ρ σ (.obj C fs) :=
  ⟨fun {Q E} q => te_frz (te_make mt hk hg hm (ha.to fun z hz => hs z hz ⟨rfl, z, _, rfl, su_same, by rw [sd_su hz]; exact q⟩) hdb he hpl)⟩
end
end Y
namespace Y
open PySem PySem.Spec PyProof.Rows L2 SX Z
/-- a def runs where the text's own frame is on top, one call deeper perhaps; no error leaves it -/
theorem runAt {X : Cx} {A : Around} {k : Nat} {f : Addr} {fd : FuncData} {ps : List Str} {sp : Sp} {pins : List (Addr × Obj)} {st : L2.St} {K : Hp} {s : Shared} {Q : VK} {us : List Value} {vs : List V} {E' : Value → Shared → Prop}
    (F : FnG X.prog X.w X.K X.mg X.base k f fd ps sp) (hr : Room k A) (hG : A.guards = some []) (hf : A.frames = X.A.frames) (bs : Binds X.K fd ps []) (I : Inv X pins st K s) (r : Vals vs us) (h : sp vs K Q fun _ _ _ => False) :
    wpAny (model X.prog X.w) A (call (.ref f) us) (EP X pins st Q) E' s := by
  have hl : (us ++ ([] : List Value)).length = ps.length := by
    rw [List.append_nil, ← r.length]
    exact F.len _ _ _ _ h
  have b := bs s us I.kIn hl
  rw [List.append_nil] at b
  have e0 : Env0 X.prog X.w X.K X.mg X.base A X.stack s K := by
    have e := I.env0
    exact ⟨by rw [hf]; exact e.frames, e.mod, e.bs, e.bsz, e.funs, e.frf, e.hok, e.bare⟩
  refine wpAny_call (codeAny_mono (F.calm A hr hG X.stack s K e0 ⟨us, []⟩ us vs r b Q _ h) fun res s2 z => ?_)
  match res, z with
  | .error e, z =>
    obtain ⟨_, _, _, _, _, _, _, _, _, _, _, _, n⟩ := z
    exact n.elim
  | .ok (.ret u), z => exact I.after z
  | .ok .next, z => exact z.elim
  | .ok .brk, z => exact z.elim
  | .ok .cont, z => exact z.elim
section
variable {c : Ct} {σ : Sg} {x y d : DT} {C : Addr} {fs gs : List (Str × DT)} {k : Nat} {ps : List Str} {spec : TSpec} {b : Bool} {n : Nat}
/-- ~x -/
theorem po_invO [Calm c] (mt : DtM c.P c.w c.K c.mg c.base C "__invert__" ps k spec) (hk : k ≤ c.k) (hs : ∀ {Q : DT → Sg → Prop} {E : TX}, Q d σ → spec [.obj C fs] σ Q E) : PO1 c (unaryOp .Invert) (.obj C fs) σ d := ⟨fun X hX H K w v rv Q' q => by
  obtain ⟨f, fd, hm, hb, F⟩ := mt
  have hX' := hX
  cases hX' with
  | mk _ k' Wx fl hpp hrH hcf hh hp' ht hf hN hU hst =>
    obtain rfl : hpp = none := ‹Calm _›.h
    obtain ⟨hcc, hr⟩ := hcf rfl
    intro pins s st u I ru
    have rv' := rv
    cases rv' with
    | @obj ad _ dx vs _ ea ed rf =>
      cases ru
      obtain ⟨mA, O, _, _, _, _⟩ := ins_get I.hok (w.le _ _ ea)
      obtain ⟨od, J, _⟩ := O.look
      obtain ⟨m, fr⟩ := I.fr
      exact PySem.W.ksp_inv fr I.ok.mod.kin J hm.at_ hm.fn (runAt (vs := [.ref ad]) F (hr.mono hk) hU rfl hb I (.cons rfl .nil) ⟨[.obj C fs], H, σ, fun d' σ' => d' = d ∧ σ' = σ, TX0, w, .cons rv .nil, hs ⟨rfl, rfl⟩, fun v d σ' H' K' s w' r ⟨e1, e2⟩ => by subst e1 e2; exact q v H' K' s w' r, fun _ _ _ _ _ _ _ _ _ z => z⟩)⟩
/-- len(x) -/
theorem pf_lenO [Calm c] (mt : DtM c.P c.w c.K c.mg c.base C "__len__" ps k spec) (hk : k + 1 ≤ c.k) (hn : n < 2 ^ 62) (hs : ∀ {Q : DT → Sg → Prop} {E : TX}, Q (.int (n : Int)) σ → spec [.obj C fs] σ Q E) : POF c (.builtin "len") [.obj C fs] σ (.int (n : Int)) := ⟨fun X hX H K w vs ra Q' q => by
  obtain ⟨f, fd, hm, hb, F⟩ := mt
  have hX' := hX
  cases hX' with
  | mk _ k' Wx fl hpp hrH hcf hh hp' ht hf hN hU hst =>
    obtain rfl : hpp = none := ‹Calm _›.h
    obtain ⟨hcc, hr⟩ := hcf rfl
    obtain ⟨v, rfl, rv⟩ := repA_one ra
    intro pins s st us I rr
    obtain ⟨u, rfl, ru⟩ := vals1 rr
    have rv' := rv
    cases rv' with
    | @obj ad _ dx vs _ ea ed rf =>
      cases ru
      obtain ⟨mA, O, _, _, _, _⟩ := ins_get I.hok (w.le _ _ ea)
      obtain ⟨od, J, _⟩ := O.look
      obtain ⟨m, fr⟩ := I.fr
      refine PySem.W.len_K fr I.ok.mod.kin J hm.at_ hm.fn (wpAny_mono (runAt (Q := fun v K2 => v = .int (n : Int) ∧ Q' (.int (n : Int)) K2) (vs := [.ref ad]) F ((hr.mono hk).in1) hU rfl hb I (.cons rfl .nil) ⟨[.obj C fs], H, σ, fun d' σ' => d' = .int (n : Int) ∧ σ' = σ, TX0, w, .cons rv .nil, hs ⟨rfl, rfl⟩, fun v d σ' H' K' s w' r ⟨e1, e2⟩ => by subst e1 e2; cases r; exact ⟨rfl, q _ H' K' s w' (.int _)⟩, fun _ _ _ _ _ _ _ _ _ z => z⟩) (fun r s2 z => ?_) fun _ _ z => z)
      obtain ⟨v2, K3, I3, rz, ez, q3⟩ := z
      subst ez
      obtain ⟨t, rfl⟩ := rz
      exact ⟨⟨by omega, by omega⟩, .int (n : Int), K3, I3.tok _, ⟨_, rfl⟩, q3⟩⟩
/-- y in x -/
theorem po_inO [Calm c] (mt : DtM c.P c.w c.K c.mg c.base C "__contains__" ps k spec) (hk : k ≤ c.k) (hs : ∀ {Q : DT → Sg → Prop} {E : TX}, Q (.bl b) σ → spec [.obj C fs, y] σ Q E) : PO2 c (compareOp .In) y (.obj C fs) σ (.bl b) := ⟨fun X hX H K w v u rv ru Q' q => by
  obtain ⟨f, fd, hm, hb, F⟩ := mt
  have hX' := hX
  cases hX' with
  | mk _ k' Wx fl hpp hrH hcf hh hp' ht hf hN hU hst =>
    obtain rfl : hpp = none := ‹Calm _›.h
    obtain ⟨hcc, hr⟩ := hcf rfl
    intro pins s st vv uu I r1 r2
    have ru' := ru
    cases ru' with
    | @obj ad _ dx vs _ ea ed rf =>
      cases r2
      obtain ⟨mA, O, _, _, _, _⟩ := ins_get I.hok (w.le _ _ ea)
      obtain ⟨od, J, _⟩ := O.look
      obtain ⟨m, fr⟩ := I.fr
      refine PySem.W.in_K fr I.ok.mod.kin J hm.at_ hm.fn (wpAny_mono (runAt (Q := fun v K2 => v = .bl b ∧ Q' (.bl b) K2) (vs := [.ref ad, v]) F (hr.mono hk) hU rfl hb I (.cons rfl (.cons r1 .nil)) ⟨[.obj C fs, y], H, σ, fun d' σ' => d' = .bl b ∧ σ' = σ, TX0, w, .cons ru (.cons rv .nil), hs ⟨rfl, rfl⟩, fun v d σ' H' K' s w' r ⟨e1, e2⟩ => by subst e1 e2; cases r; exact ⟨rfl, q _ H' K' s w' (.bl _)⟩, fun _ _ _ _ _ _ _ _ _ z => z⟩) (fun r s2 z => ?_) fun _ _ z => z)
      obtain ⟨v2, K3, I3, rz, ez, q3⟩ := z
      subst ez
      cases rz
      exact wpAny_pure ⟨.bl b, K3, I3, rfl, q3⟩⟩
theorem po_notInO [Calm c] (mt : DtM c.P c.w c.K c.mg c.base C "__contains__" ps k spec) (hk : k ≤ c.k) (hs : ∀ {Q : DT → Sg → Prop} {E : TX}, Q (.bl b) σ → spec [.obj C fs, y] σ Q E) : PO2 c (compareOp .NotIn) y (.obj C fs) σ (.bl (!b)) := ⟨fun X hX H K w v u rv ru Q' q => by
  obtain ⟨f, fd, hm, hb, F⟩ := mt
  have hX' := hX
  cases hX' with
  | mk _ k' Wx fl hpp hrH hcf hh hp' ht hf hN hU hst =>
    obtain rfl : hpp = none := ‹Calm _›.h
    obtain ⟨hcc, hr⟩ := hcf rfl
    intro pins s st vv uu I r1 r2
    have ru' := ru
    cases ru' with
    | @obj ad _ dx vs _ ea ed rf =>
      cases r2
      obtain ⟨mA, O, _, _, _, _⟩ := ins_get I.hok (w.le _ _ ea)
      obtain ⟨od, J, _⟩ := O.look
      obtain ⟨m, fr⟩ := I.fr
      refine PySem.W.notIn_K fr I.ok.mod.kin J hm.at_ hm.fn (wpAny_mono (runAt (Q := fun v K2 => v = .bl b ∧ Q' (.bl (!b)) K2) (vs := [.ref ad, v]) F (hr.mono hk) hU rfl hb I (.cons rfl (.cons r1 .nil)) ⟨[.obj C fs, y], H, σ, fun d' σ' => d' = .bl b ∧ σ' = σ, TX0, w, .cons ru (.cons rv .nil), hs ⟨rfl, rfl⟩, fun v d σ' H' K' s w' r ⟨e1, e2⟩ => by subst e1 e2; cases r; exact ⟨rfl, q _ H' K' s w' (.bl _)⟩, fun _ _ _ _ _ _ _ _ _ z => z⟩) (fun r s2 z => ?_) fun _ _ z => z)
      obtain ⟨v2, K3, I3, rz, ez, q3⟩ := z
      subst ez
      cases rz
      exact wpAny_pure ⟨.bl (!b), K3, I3, rfl, q3⟩⟩
/-- x == y, two instances of one class -/
theorem po_eqO [Calm c] (mt : DtM c.P c.w c.K c.mg c.base C "__eq__" ps k spec) (hk : k ≤ c.k) (hs : ∀ {Q : DT → Sg → Prop} {E : TX}, Q (.bl b) σ → spec [.obj C fs, .obj C gs] σ Q E) : PO2 c (compareOp .Eq) (.obj C fs) (.obj C gs) σ (.bl b) := ⟨fun X hX H K w v u rv ru Q' q => by
  obtain ⟨f, fd, hm, hb, F⟩ := mt
  have hX' := hX
  cases hX' with
  | mk _ k' Wx fl hpp hrH hcf hh hp' ht hf hN hU hst =>
    obtain rfl : hpp = none := ‹Calm _›.h
    obtain ⟨hcc, hr⟩ := hcf rfl
    intro pins s st vv uu I r1 r2
    have ru' := ru
    have rv' := rv
    cases rv' with
    | @obj ad _ dx vs _ ea ed rf =>
    cases ru' with
    | @obj ad2 _ dx2 vs2 _ ea2 ed2 rf2 =>
      cases r1
      cases r2
      obtain ⟨mA, O, _, _, _, _⟩ := ins_get I.hok (w.le _ _ ea)
      obtain ⟨od, J, _⟩ := O.look
      obtain ⟨mA2, O2, _, _, _, _⟩ := ins_get I.hok (w.le _ _ ea2)
      obtain ⟨od2, J2, _⟩ := O2.look
      obtain ⟨m, fr⟩ := I.fr
      show wpAny (model X.prog X.w) X.A (richCompare .Eq (.ref ad) (.ref ad2)) (EP X pins st Q') X.xe s
      refine PySem.W.cmp_K (op := .Eq) (tb := .ref C) (by have := hr.units; omega) fr I.ok.mod.kin J J2.type (by simp [PySem.W.notFirst]) hm.at_ hm.fn ?_
      refine wpAny_mono (runAt (Q := fun v K2 => v = .bl b ∧ Q' (.bl b) K2) (vs := [.ref ad, .ref ad2]) F (hr.mono hk) hU rfl hb I (.cons rfl (.cons rfl .nil)) ⟨[.obj C fs, .obj C gs], H, σ, fun d' σ' => d' = .bl b ∧ σ' = σ, TX0, w, .cons rv (.cons ru .nil), hs ⟨rfl, rfl⟩, fun v d σ' H' K' s w' r ⟨e1, e2⟩ => by subst e1 e2; cases r; exact ⟨rfl, q _ H' K' s w' (.bl _)⟩, fun _ _ _ _ _ _ _ _ _ z => z⟩) (fun r s2 z => ?_) fun _ _ z => z
      obtain ⟨v2, K3, I3, rz, ez, q3⟩ := z
      subst ez
      cases rz
      exact ⟨.bl b, K3, I3, rfl, q3⟩⟩
end
end Y
namespace Y
open PySem PySem.Spec PyProof.Rows L2 SX Z
/-- the call as code -/
theorem runGc {X : Cx} {W : WX} {k : Nat} {f : Addr} {fd : FuncData} {ps : List Str} {sp : Sp} {pins : List (Addr × Obj)} {st : L2.St} {K : Hp} {s : Shared} {Q : VK} {us : List Value} {vs : List V}
    (F : FnG X.prog X.w X.K X.mg X.base k f fd ps sp) (hr : Room k X.A) (hG : X.A.guards = some []) (tk : L2N.Takes X W) (bs : Binds X.K fd ps []) (I : Inv X pins st K s) (r : Vals vs us) (h : sp vs K Q (WE W st)) {R : Result → Shared → Prop}
    (ho : ∀ u s2, EP X pins st Q u s2 → R (.ok (.ret u)) s2) (hx : ∀ e s2, X.xe e s2 → R (.error e) s2) : codeAny (model X.prog X.w) X.A (.call (.ref f) ⟨us, []⟩) R s := by
  have hl : (us ++ ([] : List Value)).length = ps.length := by
    rw [List.append_nil, ← r.length]
    exact F.len _ _ _ _ h
  have b := bs s us I.kIn hl
  rw [List.append_nil] at b
  refine codeAny_mono (F.calm X.A hr hG X.stack s K I.env0 ⟨us, []⟩ us vs r b Q _ h) fun res s2 z => ?_
  match res, z with
  | .error e, z => exact hx _ _ (L2N.passAt tk st pins K s e s2 I z)
  | .ok (.ret u), z => exact ho _ _ (I.after z)
  | .ok .next, z => exact z.elim
  | .ok .brk, z => exact z.elim
  | .ok .cont, z => exact z.elim
/-- a classmethod's promise: its first argument is the class -/
def DtC (P : Program) (w : World) (F : PySem.W.Frag) (mg : Str → Option Value) (base : Heap) (C : Addr) (m : Str) (ps : List Str) (k : Nat) (spec : TSpec) : Prop := ∃ p g fd mc, ClX.CRead F C mc ∧ ClX.CMet F C mc m p g ∧ Binds F fd ps [] ∧ FnG P w F mg base k g fd ps (spT F spec)
section
variable {c : Ct} {ρ : EnvT} {σ : Sg} {Q : DT → Sg → Prop} {E : TX} {e a o : Expr} {es : List Expr} {pos p apos : Pos} {d x : DT} {C : Addr} {fs : List (Str × DT)} {f m n : Str} {k : Nat} {ps : List Str} {spec : TSpec} {D : EndT}
/-- C.m(e, ..) -/
theorem te_clsm [Calm c] (mt : DtC c.P c.w c.K c.mg c.base C m ps k spec) (hk : k ≤ c.k) (hg : GlS c n) (hm : c.mg n = some (.ref C)) (h : TA c (a :: es) ρ σ (fun ds σ1 => spec (.ref C :: ds) σ1 Q E) E)
    (heq : ∀ env, ∃ pl : Sem Bool, eval (.Call (.Attribute (.Name n p) m apos) (a :: es) [] pos) env = (do
      let ov ← eval (.Name n p) env
      standAt apos.atName
      let (f, first) ← holding [ov] (getMethod ov m pl)
      callWith pos f first (backTo pos (starEach (a :: es) env)) (backToKw pos (keywordEach [] env))))
    (hdb : (n == ("__debug__" : Str)) = false := by decide) (he : ∀ env, starEach (a :: es) env = (false, eval a env) :: starEach es env := by intro _; rfl) (hpl : ∀ pos env, (backTo pos (starEach es env)).any (·.1) = false := by intro _ _; rfl) :
    TE c (.Call (.Attribute (.Name n p) m apos) (a :: es) [] pos) ρ σ Q E := ⟨fun X hX st H K w r xc Q' fo => fun pins s I => by
  obtain ⟨pp, g, fd, mc, hr1, hc1, hb, F⟩ := mt
  have hX' := hX
  cases hX' with
  | mk _ k' Wx fl hpp hrH hcf hh hp' ht hf hN hU hst =>
    obtain rfl : hpp = none := ‹Calm _›.h
    obtain ⟨hcc, hr⟩ := hcf rfl
    obtain ⟨pl, heq⟩ := heq X.env
    refine PySem.W.methodCall_KW (pl := pl) (ld_glob I hg hm ?_ hdb) heq
    refine ClX.getmethcm_ok I hr1 hc1 fun s2 I2 => ?_
    refine ClX.callwith_cm I2 (ClX.base_none I (Nat.le_refl _)) hc1.fi (thn (h.run X hX st H K w r xc (fun vs K1 => ∃ ds σ1 H1, Gw H σ K H1 σ1 K1 ∧ Wd X.K H1 σ1 K1 ∧ RepA X.K H1 vs ds ∧ spec (.ref C :: ds) σ1 Q E)
      (fun vs ds σ1 H1 K1 s1 w1 r1 q => ⟨ds, σ1, H1, s1, w1, r1, q⟩) pos _ s2 I2) fun us s3 ⟨vs, K1, I3, rr, ds, σ1, H1, g1, w1, ra, q⟩ => ⟨⟨ClX.pin_at I3, I3.kIn⟩, ?_⟩) (he _) (hpl _ _)
    refine wpAny_call (PySem.W.method_call (ClX.pin_at I3) ?_)
    refine runGc (vs := .ref C :: vs) F (hr.mono hk) hU ht hb I3 (.cons rfl rr) ⟨.ref C :: ds, H1, σ1, Q, E, w1, .cons (.ref C) ra, q, fun v d σ' H' K' s => fo v d σ' H' K' (g1.trans s), fun cls dA x σ' H' K' s => xc cls dA x σ' H' K' (g1.trans s)⟩ (fun u s4 z => ClX.unpinE z) (fun e s4 z => z)⟩
end
end Y
namespace Y
open PySem PySem.Spec PyProof.Rows L2 SX Z
section
variable {c : Ct} {ρ : EnvT} {σ : Sg} {Q : DT → Sg → Prop} {E : TX} {e a o : Expr} {es : List Expr} {pos p apos : Pos} {d x : DT} {C : Addr} {fs : List (Str × DT)} {f m : Str} {k : Nat} {ps : List Str} {spec : TSpec} {D : EndT}
/-- x(e, ..), x a name that holds the class -/
theorem te_makeL [Calm c] {n : Str} (mt : DtI c.P c.w c.K c.mg c.base C ps k spec) (hk : k + 1 ≤ c.k) (hl0 : lkT c.N ρ n = some (.ref C)) (hv0 : visB c.sc n = true)
    (h : TA c (a :: es) ρ σ (fun ds σ1 => ∀ p, σ1 p = none → spec (.ref p :: ds) (su σ1 p (.obj C [])) (fun v σ2 => v = .non ∧ Q (.ref p) σ2) E) E) (hdb : (n == ("__debug__" : Str)) = false := by decide) (hcd : (n == ("__classdict__" : Str)) = false := by decide)
    (he : ∀ env, starEach (a :: es) env = (false, eval a env) :: starEach es env := by intro _; rfl) (hpl : ∀ pos env, (backTo pos (starEach es env)).any (·.1) = false := by intro _ _; rfl) : TE c (.Call (.Name n p) (a :: es) [] pos) ρ σ Q E := ⟨fun X hX st H K w r xc Q' fo => fun pins s I => by
  obtain ⟨f, fd, M, hb, F⟩ := mt
  have hX' := hX
  cases hX' with
  | mk _ k' Wx fl hpp hrH hcf hh hp' ht hf hN hU hst =>
    obtain rfl : hpp = none := ‹Calm _›.h
    obtain ⟨hcc, hr⟩ := hcf rfl
    have ld := ((tv_nm (pos := p) hl0 hv0 hdb hcd).to (Q := fun d σ' => d = .ref C ∧ σ' = σ) (E := E) ⟨rfl, rfl⟩).run X hX st H K w r xc (fun v K1 => v = .ref C ∧ ∃ H1, Gw H σ K H1 σ K1 ∧ Wd X.K H1 σ K1) (fun v d σ1 H1 K1 s1 w1 r1 ⟨e1, e2⟩ => by subst e1 e2; cases r1; exact ⟨rfl, H1, s1, w1⟩) pins s I
    refine wpAny_Call_Name_kw (thn ld fun uc sc ⟨vc, Kc, Ic, rc, ec, Hc, gc, wc⟩ => ?_)
    subst ec
    cases rc
    refine PySem.W.callWith_K (h₀ := X.base) I.ok.mod.kin M.kp (thn (h.run X hX st Hc Kc wc (r.same gc.b) (xc.next gc) (fun vs K1 => ∃ ds σ1 H1, Gw Hc σ Kc H1 σ1 K1 ∧ Wd X.K H1 σ1 K1 ∧ RepA X.K H1 vs ds ∧ ∀ p, σ1 p = none → spec (.ref p :: ds) (su σ1 p (.obj C [])) (fun v σ2 => v = .non ∧ Q (.ref p) σ2) E)
      (fun vs ds σ1 H1 K1 s1 w1 r1 q => ⟨ds, σ1, H1, s1, w1, r1, q⟩) pos pins _ Ic) fun us s1 ⟨vs, K1, I1, rr, ds, σ1, H1, g1, w1, ra, q⟩ => ⟨I1.kIn, ?_⟩) (he _) (hpl _ _)
    have n1 : K1 (s1.heap.objs.size + 1) = none := I1.hok.fresh (Nat.le_succ _)
    have n0 : K1 s1.heap.objs.size = none := I1.hok.fresh (Nat.le_refl _)
    have ne : s1.heap.objs.size ≠ s1.heap.objs.size + 1 := Nat.ne_of_lt (Nat.lt_succ_self _)
    have I2 := Inv.made (C := C) I1
    have q2 := q (s1.heap.objs.size + 1) (w1.free n1)
    have w2 := w1.push (o := .own (s1.heap.objs.size + 1)) n0
    have n2 : upd K1 s1.heap.objs.size (.own (s1.heap.objs.size + 1)) (s1.heap.objs.size + 1) = none := by rw [upd_ne ne.symm]; exact n1
    have w3 := (w2.push (o := .ins C s1.heap.objs.size []) n2).add (c := .obj C []) (none_of w1.le n1) ⟨s1.heap.objs.size, [], upd_same, by rw [upd_ne ne]; exact upd_same, .nil⟩
    have g3 := (g1.trans (Gw.push (H := H1) (σ := σ1) (o := .own (s1.heap.objs.size + 1)) n0)).trans (Gw.newC (c := .obj C []) (o := .ins C s1.heap.objs.size []) n2)
    have r2 : Vals (V.ref (s1.heap.objs.size + 1) :: vs) (Value.ref (s1.heap.objs.size + 1) :: us) := .cons rfl rr
    have sp2 : spT X.K spec (V.ref (s1.heap.objs.size + 1) :: vs) (upd (upd K1 s1.heap.objs.size (.own (s1.heap.objs.size + 1))) (s1.heap.objs.size + 1) (.ins C s1.heap.objs.size [])) (fun v K2 => v = .non ∧ Q' (.ref (s1.heap.objs.size + 1)) K2) (WE Wx st) :=
      ⟨.ref (s1.heap.objs.size + 1) :: ds, H1, _, _, E, w3, .cons (.ref _) ra, q2, fun v d σ' H' K' s w' rv ⟨e1, q3⟩ => by
        subst e1
        cases rv
        exact ⟨rfl, fo _ _ σ' H' K' ((gc.trans g3).trans s) w' (.ref _) q3⟩, fun cls dA x σ' H' K' s => xc cls dA x σ' H' K' ((gc.trans g3).trans s)⟩
    have hl : (Value.ref (s1.heap.objs.size + 1) :: us ++ ([] : List Value)).length = ps.length := by
      rw [List.append_nil, ← r2.length]
      exact F.len _ _ _ _ sp2
    have b := hb _ (Value.ref (s1.heap.objs.size + 1) :: us) I2.kIn hl
    rw [List.append_nil] at b
    refine wpAny_call (make_map (f := f) I1.kIn M.makes M.init (beq_iff_eq.mp M.fn) (codeAny_mono (F.calm _ ((hr.mono hk).make C us []) hU X.stack _ _ (I2.env0.make C us []) ⟨Value.ref (s1.heap.objs.size + 1) :: us, []⟩ _ _ r2 b _ _ sp2) fun res s2 z => ?_))
    match res, z with
    | .error er, z => exact L2N.passAt ht st pins _ _ er s2 I2 z
    | .ok (.ret u), z =>
      obtain ⟨v, K3, I3, rv, ev, q3⟩ := I2.after z
      subst ev
      exact ⟨rv, ⟨V.ref (s1.heap.objs.size + 1), K3, I3, rfl, q3⟩⟩
    | .ok .next, z => exact z.elim
    | .ok .brk, z => exact z.elim
    | .ok .cont, z => exact z.elim⟩
end
end Y
namespace PySem.W
open PySem PySem.Spec PySem.Calls PyProof.Rows
theorem ns_at {K : Frag} {h : Heap} {N : Addr} {mN : Str → Option Value} {x : Str} {v : Value} (X : K.In h) (G : h.Ns N mN) (e : nsIn K N x = some (some v)) : mN x = some v := by
  obtain ⟨o, es, ep, ho, hd, _, hf⟩ := G
  unfold nsIn at e
  split at e
  · next c d es' n' sl q =>
    obtain rfl := Option.some.inj ((X _ _ q).symm.trans ho)
    cases hd
    split at e
    · next en he =>
      rw [← hf, ← Option.some.inj (Option.some.inj e)]
      unfold nsFind findBy
      rw [← Array.find?_toList, he]; rfl
    · split at e <;> cases e
  · cases e
/-- a plain class with an == of its own and no != -/
def ownB (K : Frag) (C : Addr) : Bool := (match K.lookup C with
  | some ⟨.type "type", _, .cls ⟨_, _, [.ref C', .type "object"], N, _, _, _, _, _, _, false⟩, ⟨[_, _, _, _, some (.builtin _), _]⟩⟩ => C' == C && (nsOkIn K N && (nsIn K N "__eq__" == findIn K (.ref C) "__eq__" && nsIn K N "__ne__" == some none))
  | _ => false)
theorem ownB_ok {K : Frag} {C x f : Addr} {h : Heap} {o : Obj} (X : K.In h) (q : ownB K C = true) (hx : h.get? x = some o) (hc : o.cls = .ref C) (he : findIn K (.ref C) "__eq__" = some (some (.ref f))) (hf : isFn K (.ref f) = true) : h.OwnEqNoNe x C f "object" [.type "object"] := by
  unfold ownB at q
  split at q
  · next dd nm bs C' N qn hdct sn sub ab col k0 k1 k2 k3 n k5 ho =>
    simp only [Bool.and_eq_true, beq_iff_eq] at q
    obtain ⟨rfl, h1, h2, h3⟩ := q
    obtain ⟨of, l1, l2⟩ := Option.map_eq_some_iff.mp (show (K.lookup f).map (·.cls) = some (.type "function") from beq_iff_eq.mp hf)
    have ns := Heap.Ns.of_isNs (isNs_of_in X h1)
    exact ⟨o, of, _, _, _, _, _, _, _, _, _, _, _, _, _, _, _, _, _, _, hx, hc, X _ _ ho, ns, ns_at X ns (h2.trans he), X _ _ l1, l2, PySem.F.cmp_object.mro, PySem.F.cmp_object.eq.lookup, nsMap_none_of_in X h1 h3⟩
  · cases q
end PySem.W
namespace Y
open PySem PySem.Spec PyProof.Rows L2 SX Z
section
variable {c : Ct} {σ : Sg} {x y d : DT} {C : Addr} {fs gs : List (Str × DT)} {k : Nat} {ps : List Str} {spec : TSpec} {b : Bool} {n : Nat}
/-- x != y, two instances of one class -/
theorem po_neO [Calm c] (mt : DtM c.P c.w c.K c.mg c.base C "__eq__" ps k spec) (hk : k + 1 ≤ c.k) (ho : PySem.W.ownB c.K C = true) (hs : ∀ {Q : DT → Sg → Prop} {E : TX}, Q (.bl b) σ → spec [.obj C fs, .obj C gs] σ Q E) : PO2 c (compareOp .NotEq) (.obj C fs) (.obj C gs) σ (.bl (!b)) := ⟨fun X hX H K w v u rv ru Q' q => by
  obtain ⟨f, fd, hm, hb, F⟩ := mt
  have hX' := hX
  cases hX' with
  | mk _ k' Wx fl hpp hrH hcf hh hp' ht hf hN hU hst =>
    obtain rfl : hpp = none := ‹Calm _›.h
    obtain ⟨hcc, hr⟩ := hcf rfl
    intro pins s st vv uu I r1 r2
    have ru' := ru
    have rv' := rv
    cases rv' with
    | @obj ad _ dx vs _ ea ed rf =>
    cases ru' with
    | @obj ad2 _ dx2 vs2 _ ea2 ed2 rf2 =>
      cases r1
      cases r2
      obtain ⟨mA, O, _, _, _, _⟩ := ins_get I.hok (w.le _ _ ea)
      obtain ⟨od, J, _⟩ := O.look
      obtain ⟨mA2, O2, _, _, _, _⟩ := ins_get I.hok (w.le _ _ ea2)
      obtain ⟨od2, J2, _⟩ := O2.look
      have kin := I.kIn
      have run := runAt (Q := fun v K2 => v = .bl b ∧ Q' (.bl (!b)) K2) (vs := [.ref ad, .ref ad2]) (us := [.ref ad, .ref ad2]) (E' := X.xe) F ((hr.mono hk).in1) hU rfl hb I (.cons rfl (.cons rfl .nil)) ⟨[.obj C fs, .obj C gs], H, σ, fun d' σ' => d' = .bl b ∧ σ' = σ, TX0, w, .cons rv (.cons ru .nil), hs ⟨rfl, rfl⟩, fun v d σ' H' K' s w' r ⟨e1, e2⟩ => by subst e1 e2; cases r; exact ⟨rfl, q _ H' K' s w' (.bl _)⟩, fun _ _ _ _ _ _ _ _ _ z => z⟩
      have hu := hr.units
      obtain ⟨hp, g, dr, tk, os⟩ := s
      refine compareOp_ne_ownEq PySem.F.cmp_object (PySem.W.ownB_ok kin ho J.1 J.cls hm.at_ hm.fn) J2.1 J2.cls (by omega) ?_
      refine wpAny_mono run (fun r s2 z => ?_) fun _ _ z => z
      obtain ⟨v2, K3, I3, rz, ez, q3⟩ := z
      subst ez
      cases rz
      exact ⟨b, rfl, .bl (!b), K3, I3, rfl, q3⟩⟩
end
end Y

/-! Yq: == of dicts whose values are ints. -/
namespace Y
open PySem PySem.Spec PyProof.Rows L2 SX Z
abbrev CK := List (DK × Int)
/-- the tree of a tally -/
def iD (ks : CK) : List (DK × DT) := ks.map fun p => (p.1, .int p.2)
def ivl (ks : CK) (k : DK) : Option Int := (ks.find? fun p => decide (p.1 = k)).map (·.2)
theorem dvl_iD (k : DK) : ∀ ks : CK, dvl (iD ks) k = (ivl ks k).map DT.int
  | [] => rfl
  | p :: r => by
    have ih := dvl_iD k r
    unfold iD dvl ivl at *
    rw [List.map_cons, List.find?_cons, List.find?_cons]
    by_cases e : p.1 = k
    · simp [e]
    · simp only [e, decide_false]
      exact ih
/-- the same tally, whatever the order -/
def eqDI (ks ls : CK) : Bool := ks.length == ls.length && ks.all fun p => match ivl ls p.1 with
  | some j => p.2 == j
  | none => false
section
variable {F : PySem.W.Frag} {H : Hp}
theorem hitsI {A : Around} {s : Shared} {vs2 : List (Key × V)} {vb : List (Key × Value)} {ls : CK} (rb : KV vs2 vb) (r2 : RepK F H vs2 (iD ls)) : ∀ (ks : CK) (vs : List (Key × V)) (va : List (Key × Value)), RepK F H vs (iD ks) → KV vs va →
    PySem.W.KeqHits A s vb va (ks.all fun p => match ivl ls p.1 with | some j => p.2 == j | none => false)
  | [], _, _, r, kv => by
    cases r
    cases kv
    exact .nil
  | (k, i) :: ks, _, _, r, kv => by
    cases r with
    | cons h t =>
      cases kv with
      | @cons _ q _ qs hq tq =>
        cases h
        obtain ⟨k', u⟩ := q
        obtain ⟨h1, h2⟩ := hq
        obtain rfl : keyD k = k' := h1
        obtain ⟨tk, rfl⟩ := (show ∃ tk, u = Value.int i tk from h2)
        have ih := hitsI (A := A) (s := s) rb r2 ks _ qs t tq
        have rv := rb.val (keyD k)
        obtain ⟨i1, i2⟩ := r2.val k
        rw [List.all_cons]
        cases hl : ivl ls k with
        | none =>
          rw [i2 (by rw [dvl_iD, hl]; rfl)] at rv
          exact .miss (RelO.none_of rv)
        | some j =>
          obtain ⟨w, e1, e2⟩ := i1 (.int j) (by rw [dvl_iD, hl]; rfl)
          cases e2
          rw [e1] at rv
          obtain ⟨y, hy, ry⟩ := rv.some_of
          obtain ⟨t2, rfl⟩ := (show ∃ tk, y = Value.int j tk from ry)
          exact .hit hy ((PySem.MeetsSeq.EqGives.int i j tk t2).at A s) ih
end
section
variable {c : Ct} {σ : Sg} {x y : DT} {ks ls : CK}
theorem po_eqDI (hx : DiT σ x (iD ks)) (hy : DiT σ y (iD ls)) : PO2 c (compareOp .Eq) x y σ (.bl (eqDI ks ls)) := ⟨fun X hX H K w v u rv ru Q q => by
  have hu := con_room hX
  cases hX
  obtain ⟨a, vs, rfl, q1, r1⟩ := hx.now w rv
  obtain ⟨b, vs2, rfl, q2, r2⟩ := hy.now w ru
  intro pins s st z1 z2 I y1 y2
  cases y1
  cases y2
  obtain ⟨_, ya, va, ra, da⟩ := dk_rd I.hok q1
  obtain ⟨_, yb, vb, rb, db⟩ := dk_rd I.hok q2
  have n1 : va.length = ks.length := by rw [← ra.length, r1.length]; simp [iD]
  have n2 : vb.length = ls.length := by rw [← rb.length, r2.length]; simp [iD]
  exact PySem.W.keq_eq (knd := mixKind X.prog X.w) ya yb da db (by omega) (fun _ => hitsI rb r2 ks vs va r1 ra) (fin_bl I (q _ H K Gw.refl w (.bl _)) (by rw [n1, n2]; rfl))⟩
theorem po_neDI (hx : DiT σ x (iD ks)) (hy : DiT σ y (iD ls)) : PO2 c (compareOp .NotEq) x y σ (.bl (!eqDI ks ls)) := ⟨fun X hX H K w v u rv ru Q q => by
  have hu := con_room hX
  cases hX
  obtain ⟨a, vs, rfl, q1, r1⟩ := hx.now w rv
  obtain ⟨b, vs2, rfl, q2, r2⟩ := hy.now w ru
  intro pins s st z1 z2 I y1 y2
  cases y1
  cases y2
  obtain ⟨_, ya, va, ra, da⟩ := dk_rd I.hok q1
  obtain ⟨_, yb, vb, rb, db⟩ := dk_rd I.hok q2
  have n1 : va.length = ks.length := by rw [← ra.length, r1.length]; simp [iD]
  have n2 : vb.length = ls.length := by rw [← rb.length, r2.length]; simp [iD]
  exact PySem.W.keq_ne (knd := mixKind X.prog X.w) ya yb da db (by omega) (fun _ => hitsI rb r2 ks vs va r1 ra) (fin_bl I (q _ H K Gw.refl w (.bl _)) (by rw [n1, n2]; rfl))⟩
end
end Y

/-! Ys: sorted of a dict with texts as keys, any number of them. -/
namespace Y
open PySem PySem.Spec PyProof.Rows L2 SX Z
def rSortedDA : List V → Hp → VK → Prop := fun xs H Q => ∃ (a : Addr) (kvs : List (Key × V)) (ks : List Str), xs = [.ref a] ∧ Rd H a (.dK kvs) ∧ kvs.map (·.1) = ks.map Sum.inr ∧ ∀ ys p, ys.Perm ks → sortedS ys = true → H p = none → Q (.ref p) (upd H p (.lst (ys.map V.str)))
/-- the keys' values are the texts -/
theorem keys_strs {vs : List (Key × Value)} {ks : List Str} {us : List Value} (hk : vs.map (·.1) = ks.map Sum.inr) (hl : us.length = ks.length) (h : ∀ (j : Nat) (v : Value), us[j]? = some v → ∃ (k : Key) (x : Value), vs[j]? = some (k, x) ∧ keyIs k v = true) : StrsAre us ks :=
  strs_at hl fun j v e => by
    obtain ⟨k, x, a, b⟩ := h j v e
    have c : (ks.map Sum.inr)[j]? = some k := by rw [← hk, List.getElem?_map, a]; rfl
    rw [List.getElem?_map] at c
    obtain ⟨y, c1, c2⟩ := Option.map_eq_some_iff.mp c
    rw [← c2] at b
    obtain ⟨t, q⟩ := Value.isStrOf_shape (x := y) (v := v) b
    exact ⟨y, t, c1, q⟩
theorem cr_sortedDA {X : Cx} (hcalm : X.calm = true) : CallR X (.builtin "sorted") rSortedDA := by
  rintro pins s st H xs us Q I r ⟨a, kvs, ks, rfl, hd, hks, q⟩
  obtain ⟨u, rfl, ru⟩ := vals1 r
  cases ru
  obtain ⟨z, lo, vs, rel, dd⟩ := dk_rd I.hok hd
  obtain ⟨ep, hat⟩ := dd.dictAt
  have hk2 : vs.map (·.1) = ks.map Sum.inr := by rw [← rel.keys]; exact hks
  have n1 : vs.length = ks.length := by simpa using congrArg List.length hk2
  have n2 : ks.length ≤ sizeLine := by rw [← n1, ← rel.length]; exact z
  refine Calls.call_function_entry kind_sorted plain_sorted entry_sorted (args_sorted1 _) ?_
  unfold Builtin.«sorted»
  refine wpAny_bind (m := checkCount "sorted" 1 1 _) (wpAny_pure (wpAny_bind (PySem.W.kdu_collect (A := X.A.in1) (PySem.W.kdl_dict (knd := mixKind X.prog X.w) (kvs := vs) (ep := ep) lo) (I.ok.hd hcalm) hat (by rw [n1]; exact n2) fun h' tk acc hk hacc => ?_)))
  have n3 : acc.toList.length = ks.length := by rw [Array.length_toList, hacc.1, n1]
  have hS := keys_strs hk2 n3 fun j v e => hacc.2 j v (by rw [← Array.getElem?_toList]; exact e)
  have I1 : Inv X pins st H { s with heap := h', toks := tk } := I.kept hk
  refine wpAny_bind (wpAny_newList ?_ (by rw [n3]; exact n2))
  have top : (h'.push (seqObj "list" acc.toList.toArray 0)).get? h'.objs.size = some (seqObj "list" acc.toList.toArray 0) := Heap.get?_push_size _ rfl
  refine wpAny_bind (wpAny_holding (wpAny_call_entry slot_list_sort (s := { s with heap := h'.push (seqObj "list" acc.toList.toArray 0), toks := tk }) ⟨_, top, rfl⟩ entry_list_sort
    (list_sort_treeKAny strKind_oneLt (s := { s with heap := h'.push (seqObj "list" acc.toList.toArray 0), toks := tk }) top hS.keysOf (fun w1 w2 rest e => keyKind_strs (by rw [← e]; exact hS)) (by rw [n3]; exact n2) fun st' hp hs => ⟨_, rfl, ?_⟩) (args_list_sort _)))
  obtain ⟨ys, g1, g2, g3⟩ := sorted_out_str hS hp hs
  obtain ⟨e1, at1⟩ := sortedHeap_at (vs := acc.toList) (out := (arrOf st').map (·.2)) top
  have n4 : (ys.map V.str).length ≤ sizeLine := by rw [List.length_map, g2.length_eq]; exact n2
  refine wpAny_pure ⟨_, rfl, .ref h'.objs.size, _, I1.laid (o := .lst (ys.map V.str)) (t' := tk) (fun b u e => ?_) (Nat.le_refl _) ⟨n4, ((arrOf st').map (·.2)).toList, e1, vals_of_strs g1, by rw [Array.toArray_toList]; exact at1⟩, rfl, q ys _ g2 g3 (I1.hok.fresh (Nat.le_refl _))⟩
  have lt : b < h'.objs.size := Heap.lt_size e
  rw [sortedHeap_old (Nat.ne_of_lt lt) (by rw [size_push']; exact Nat.lt_succ_of_lt lt)]
  exact Heap.get?_push_of_some _ e
/-- sorted(d) -/
theorem pf_sortedDT {c : Ct} [Calm c] {σ : Sg} {x : DT} {kvs : List (DK × DT)} {l : List (List Nat)} (hx : DiT σ x kvs) (hk : kvs.map (·.1) = l.map Sum.inr) : POF c (.builtin "sorted") [x] σ (.lst ((srtT l).map DT.str)) := ⟨fun X hX H K w vs r Q q => by
  have hc := con_calm hX
  cases hX
  obtain ⟨u, rfl, ru⟩ := repA_one r
  obtain ⟨a, ws, rfl, q1, r1⟩ := hx.now w ru
  have hk2 : ws.map (·.1) = (l.map S).map Sum.inr := by
    have a1 : ∀ {ws : List (Key × V)} {kvs : List (DK × DT)}, RepK X.K H ws kvs → ws.map (·.1) = kvs.map fun p => keyD p.1 := by
      intro ws kvs r
      induction kvs generalizing ws with
      | nil => cases r; rfl
      | cons p ps ih => cases r with | cons h t => rw [List.map_cons, List.map_cons, ih t]
    have a2 : (kvs.map fun p => keyD p.1) = (kvs.map (·.1)).map keyD := by rw [List.map_map]; rfl
    rw [a1 r1, a2, hk, List.map_map, List.map_map]
    rfl
  refine cF_of (cr_sortedDA hc) ⟨a, ws, l.map S, rfl, q1, hk2, fun ys p h1 h2 hp => ?_⟩
  have e2 := perm_S h1
  have e3 : (ys.map fun y => y.cps.toList).Perm l := by
    have := h1.map (fun y : Str => y.cps.toList)
    rw [List.map_map] at this
    have e : (l.map ((fun y : Str => y.cps.toList) ∘ S)) = l := by
      conv => rhs; rw [← List.map_id l]
      exact List.map_congr_left fun y _ => S_codes y
    rwa [e] at this
  have e4 := srtT_uniq e3 (sortedS_pair (by rw [← e2]; exact h2))
  obtain ⟨s2, w2⟩ := w.new (o := .lst (ys.map V.str)) hp
  refine q _ _ _ s2 w2 (.lst upd_same ?_)
  rw [e2, e4, List.map_map]
  exact repA_of _ DT.str (fun z => .str z) (srtT l)⟩
end Y
namespace Y
open PySem PySem.Spec L2 SX Z
theorem putT_new {acc : List (DK × DT)} {k : DK} {y : DT} (h : k ∉ acc.map (·.1)) : putT acc k y = acc ++ [(k, y)] := by
  unfold putT
  rw [if_neg]
  rw [List.any_eq_true]
  rintro ⟨e, he, hk⟩
  exact h (List.mem_map.mpr ⟨e, he, of_decide_eq_true hk⟩)
section
variable {c : Ct} {ρ : EnvT} {σ : Sg} {tg iter kx vx : Expr} {scope : Scope} {pos : Pos} {own : List (Str × Nat)} {t : TgS}
/-- {k: v for ..}, the keys distinct -/
theorem tv_dc [Calm c] {α : Type} {l : List α} {g vf : α → DT} {kf : α → DK} {ρ' : α → EnvT} (htg : TgOk (c.blk scope) tg t) (hb : blkC c.N c.sc scope own = true) (hsub : ∀ j ∈ t.slots, j ∈ own.map (·.2)) (hi : TVI c tg iter ρ σ (l.map g)) (hn : l.length ≤ 1000000)
    (hst : ∀ a ∈ l, stT t (g a) (wipeT ρ (own.map (·.2))) = some (ρ' a)) (hs : ∀ a ∈ l, TV (c.blk scope) kx (ρ' a) σ (dk (kf a)) ∧ TV (c.blk scope) vx (ρ' a) σ (vf a)) (hnd : (l.map kf).Nodup) (hf : ∀ env x, foldedSetIterable iter env x = pure x := by intro _ _; rfl) :
    TV c (.DictComp kx vx [⟨tg, iter, [], 0⟩] scope pos) ρ σ (.dct (l.map fun a => (kf a, vf a))) := ⟨fun {Q E} q => te_frz (te_dcC htg hb hsub (hi.to ⟨by rw [List.length_map]; exact hn, fun i acc σ2 => σ2 = σ ∧ acc = (l.take i).map fun a => (kf a, vf a), ⟨rfl, by simp⟩, fun i d acc σ2 hd ⟨e1, e2⟩ => by
    subst e1 e2
    rw [List.getElem?_map] at hd
    obtain ⟨a, ha, rfl⟩ := Option.map_eq_some_iff.mp hd
    have hm : a ∈ l := List.mem_of_getElem? ha
    have hlt : i < l.length := (List.getElem?_eq_some_iff.mp ha).1
    have tk : l.take (i + 1) = l.take i ++ [a] := by rw [List.take_succ, ha]; rfl
    refine ⟨ρ' a, hst a hm, ?_⟩
    have hnk : kf a ∉ ((l.take i).map fun a => (kf a, vf a)).map (·.1) := by
      rw [List.map_map]
      intro hk
      have q1 : (l.map kf)[i]? = some (kf a) := by rw [List.getElem?_map, ha]; rfl
      obtain ⟨j, hj⟩ := List.mem_iff_getElem?.mp hk
      rw [List.getElem?_map, List.getElem?_take] at hj
      split at hj
      · next hji =>
        have q2 : (l.map kf)[j]? = some (kf a) := by rw [List.getElem?_map]; exact hj
        have := (List.getElem?_inj (by rw [List.length_map]; omega) hnd).mp (q2.trans q1.symm)
        omega
      · cases hj
    show TE _ _ _ _ _ _
    exact (hs a hm).1.to ⟨kf a, rfl, (hs a hm).2.to ⟨rfl, by rw [putT_new hnk, tk, List.map_append]; rfl⟩⟩, fun D acc σ2 hD _ ⟨e1, e2⟩ => by
    subst e1 e2
    refine ⟨D, _, rfl, su_same, ?_⟩
    rw [sd_su hD, List.take_of_length_le (by rw [List.length_map]; exact Nat.le_refl _)]
    exact q⟩) hf)⟩
end
end Y

/-! Yu: dict of a list of pairs. -/
namespace Y
open PySem PySem.Spec PyProof.Rows L2 SX Z
theorem pairs_rep {F : PySem.W.Frag} {H K : Hp} (s : Same H K) : ∀ (l : List (DK × DT)) (vs : List V), RepA F H vs (l.map fun p => .tup [dk p.1, p.2]) → ∃ (ps : List Addr) (kvs : List (Key × V)), vs = ps.map V.ref ∧ Paired (fun p kv => SqT F K p [kV kv.1, kv.2]) ps kvs ∧ RepK F H kvs l
  | [], _, r => by
    cases r
    exact ⟨[], [], rfl, .nil, .nil⟩
  | (k, d) :: l, _, r => by
    cases r with
    | cons h t =>
      obtain ⟨ps, kvs, rfl, hp, rk⟩ := pairs_rep s l _ t
      cases h with
      | @tup a ws _ hs ra =>
        obtain ⟨x, y, rfl, rx, ry⟩ := repA_two ra
        have ek := rx.key
        subst ek
        exact ⟨a :: ps, (keyD k, y) :: kvs, rfl, .cons (same_sqt s hs) hp, .cons ry rk⟩
theorem RepK.merge {F : PySem.W.Frag} {H : Hp} : ∀ (l acc : List (DK × DT)) (kvs va : List (Key × V)), RepK F H kvs l → RepK F H va acc → RepK F H (mergeK va kvs) (l.foldl (fun a p => putT a p.1 p.2) acc)
  | [], _, _, _, r, ra => by
    cases r
    exact ra
  | (k, d) :: l, acc, _, va, r, ra => by
    cases r with
    | @cons _ v vs _ _ h t => exact RepK.merge l (putT acc k d) vs (putK va (keyD k) v) t (RepK.put ra k h)
theorem fold_nd : ∀ (l acc : List (DK × DT)), ((acc ++ l).map (·.1)).Nodup → l.foldl (fun a p => putT a p.1 p.2) acc = acc ++ l
  | [], acc, _ => by simp
  | p :: l, acc, h => by
    rw [List.foldl_cons]
    have hk : p.1 ∉ acc.map (·.1) := fun z => by
      rw [List.map_append, List.map_cons, List.nodup_append] at h
      exact h.2.2 p.1 z p.1 List.mem_cons_self rfl
    rw [putT_new hk, fold_nd l (acc ++ [(p.1, p.2)]) (by rw [List.append_assoc]; exact h), List.append_assoc]
    rfl
section
variable {c : Ct} {ρ : EnvT} {σ : Sg} {a : Expr} {pos p : Pos} {l : List (DK × DT)} {Q : DT → Sg → Prop} {E : TX}
theorem te_dictP [Calm c] (hg : GlS c "dict") (hm : c.mg "dict" = none) (h : TE c a ρ σ (fun x σ1 => ∃ l : List (DK × DT), LsT σ1 x (l.map fun p => .tup [dk p.1, p.2]) ∧ (l.map (·.1)).Nodup ∧ ∀ q, σ1 q = none → Q (.ref q) (su σ1 q (.dct l))) E)
    (he : ∀ env, starEach [a] env = (false, eval a env) :: starEach [] env := by intro _; rfl) (hpl : ∀ pos env, (backTo pos (starEach [] env)).any (·.1) = false := by intro _ _; rfl) : TE c (.Call (.Name "dict" p) [a] [] pos) ρ σ Q E := ⟨fun X hX st H K w r xc Q' fo => by
  have hc := con_calm hX
  have hX' := hX
  cases hX'
  refine cE_of (pe_callTy (call_dictP hc) hg hm (by exact bt_dict) (cA_pa (e := [a])) (by decide) (by decide) (he _) (hpl _ _)) ?_
  refine (ta_cons (QA := fun ds σ1 => ∃ x l, ds = [x] ∧ LsT σ1 x (l.map fun p : DK × DT => .tup [dk p.1, p.2]) ∧ (l.map (·.1)).Nodup ∧ ∀ q, σ1 q = none → Q (.ref q) (su σ1 q (.dct l))) (h.imp fun x σ1 ⟨l, h1, h2, h3⟩ => ta_nil ⟨x, l, rfl, h1, h2, h3⟩) he).run X hX st H K w r xc _ fun vs ds σ1 H1 K1 s1 w1 r1 ⟨x, l, ed, hx, nd, q⟩ => ?_
  subst ed
  obtain ⟨u, rfl, ru⟩ := repA_one r1
  obtain ⟨b, ws, rfl, q1, ra⟩ := hx.now w1 ru
  obtain ⟨ps, kvs, rfl, hp, rk⟩ := pairs_rep w1.le l ws ra
  refine ⟨b, ps, kvs, rfl, q1, hp, fun z hz => ?_⟩
  have rm := RepK.merge l [] kvs [] rk .nil
  rw [fold_nd l [] nd, List.nil_append] at rm
  exact fo _ _ _ H1 _ (s1.trans (Gw.newC hz)) ((w1.push (o := .dK (mergeK [] kvs)) hz).add (c := .dct l) (none_of w1.le hz) ⟨_, upd_same, rm⟩) (.ref z) (q z (w1.free hz))⟩
theorem tv_dictP [Calm c] {x : DT} (hg : GlS c "dict") (hm : c.mg "dict" = none) (ha : TV c a ρ σ x) (hx : LsT σ x (l.map fun p => .tup [dk p.1, p.2])) (nd : (l.map (·.1)).Nodup) (he : ∀ env, starEach [a] env = (false, eval a env) :: starEach [] env := by intro _; rfl) : TV c (.Call (.Name "dict" p) [a] [] pos) ρ σ (.dct l) :=
  ⟨fun {Q E} q => te_frz (te_dictP hg hm (ha.to ⟨l, hx, nd, fun z hz => ⟨z, _, rfl, su_same, by rw [sd_su hz]; exact q⟩⟩) he)⟩
end
end Y

/-! Yv: sum(d.values()), ints that are not great. -/
namespace Y
open PySem PySem.Spec PyProof.Rows L2 SX Z
def tSumVals (td : L2.TE) : L2.TE := fun st H Q => td st H fun x H1 => ∃ (a : Addr) (kvs : List (Key × V)) (is : List Int), x = V.ref a ∧ Rd H1 a (.dK kvs) ∧ kvs.map (·.2) = is.map V.int ∧ (∀ i ∈ is, 0 ≤ i) ∧ is.sum < 2 ^ 62 ∧ Q (.int is.sum) H1
theorem take_sum {is : List Int} (h : ∀ i ∈ is, 0 ≤ i) (j : Nat) : 0 ≤ (is.take j).sum ∧ (is.take j).sum ≤ is.sum := by
  induction is generalizing j with
  | nil => simp
  | cons x xs ih =>
    have h1 := h x List.mem_cons_self
    have h2 := ih (fun i hi => h i (List.mem_cons_of_mem _ hi))
    cases j with
    | zero =>
      have := (h2 xs.length)
      rw [List.take_length] at this
      simp only [List.take_zero, List.sum_nil, List.sum_cons]
      omega
    | succ j =>
      have := h2 j
      simp only [List.take_succ_cons, List.sum_cons]
      omega
theorem pe_sumVals {X : Cx} {o : Expr} {p pos apos mpos : Pos} {td : L2.TE} (hc : X.calm = true) (hg : Gl X "sum") (hm : X.mg "sum" = none) (hd : PE X o td) (hbase : attributeBase o "values" X.env (eval o X.env) = eval o X.env) (hline : (apos.endLine == mpos.line) = true)
    (hse : starEach [Expr.Call (.Attribute o "values" apos) [] [] mpos] X.env = [(false, eval (Expr.Call (.Attribute o "values" apos) [] [] mpos) X.env)]) : PE X (.Call (.Name "sum" p) [.Call (.Attribute o "values" apos) [] [] mpos] [] pos) (tSumVals td) := by
  refine ⟨fun pins s st H Q I h => wpAny_Call_Name_kw (ld_blt I hg hm (u := .builtin "sum") bt_sum ?_ (by decide) (by decide))⟩
  rw [hse]
  refine PySem.callWith_builtin1 (wpAny_Call_method0_late hbase hline (thn (hd.run pins s st H _ I h) fun v s1 ⟨x, H1, I1, r1, a, kvs, is, ex, ha, hv, hpos, hbig, q⟩ => ?_))
  subst ex
  cases r1
  obtain ⟨_, hsys, vs, rel, dof⟩ := dk_rd I1.hok ha
  obtain ⟨ep, dat⟩ := dof.dictAt
  obtain ⟨ob, es, ho, ex, hdat, hko, hpr, hnd⟩ := id dat
  refine ⟨"dict", "dict.values", F.plainAttrs_dict, F.slot_dict_values, F.type_dict_values, ⟨ob, ho, ex.1⟩, fun b e => by cases e; exact ⟨ob, ho, ex.2.1⟩, Calls.callWith_builtin rfl (PySem.evalArgs_none ?_)⟩
  refine call_meetsIn F.slot_dict_values ⟨ob, ho, ex.1⟩ F.entry_dict_values (F.args_dict_values_1 _) (meets_dict_values (mixKind X.prog X.w) a hsys) ⟨⟨vs, dof⟩, ?_⟩
  have lay : ∀ b u, s1.heap.get? b = some u → (s1.heap.push { cls := .type "dict_values", data := .fields #[.ref a] }).get? b = some u := fun b u e => Heap.get?_push_of_some _ e
  have dat1 := dat.keep lay
  have n1 : vs.length = is.length := by rw [← KV.length rel]; simpa using congrArg List.length hv
  have val : ∀ (i : Nat) (v : Value), (∃ k, vs[i]? = some (k, v)) → ∃ t, v = Value.int (is.getD i 0) t := by
    rintro i v ⟨k, hk⟩
    obtain ⟨x, h1, h2⟩ := KV.at' rel hk
    have e1 : (is.map V.int)[i]? = some x := by rw [← hv, List.getElem?_map, h1]; rfl
    rw [List.getElem?_map] at e1
    obtain ⟨j, hj, rfl⟩ := Option.map_eq_some_iff.mp e1
    obtain ⟨t, rfl⟩ := (show ∃ t, v = Value.int j t from h2)
    exact ⟨t, by rw [List.getD_eq_getElem?_getD, hj]; rfl⟩
  have bnd := take_sum hpos
  have lt : a < s1.heap.objs.size := Heap.lt_size ho
  have sz : (s1.heap.push { cls := .type "dict_values", data := .fields #[.ref a] }).objs.size = s1.heap.objs.size + 1 := Heap.size_push _ _
  refine call_sum_walk (wpAny_pyIter_values (v := s1.heap.objs.size) (d := a) ⟨_, Heap.get?_push_size _ rfl, rfl, rfl⟩ dat1 ?_)
  refine ⟨_, _, _, _, _, _, fun i => is.getD i 0, rfl, Walks.dictValues (knd := mixKind X.prog X.w) (A := X.A.in1) (I.ok.hd hc) (s1.heap.push { cls := .type "dict_values", data := .fields #[.ref a] }).objs.size a (by rw [sz]; exact Nat.ne_of_lt (Nat.lt_succ_of_lt lt)) vs ep,
    ⟨⟨_, Heap.get?_push_size _ rfl, rfl, rfl⟩, dat1.keep fun b u e => Heap.get?_push_of_some _ e⟩, fun b hb => ?_, val, fun j hj => ?_, fun h' tk t' hk => ?_⟩
  · show b < ((s1.heap.push _).push _).objs.size
    rw [Heap.size_push, Heap.size_push]
    rw [sz] at hb
    rcases List.mem_cons.mp hb with e | hb
    · exact e ▸ Nat.lt_succ_self _
    · exact List.mem_singleton.mp hb ▸ Nat.lt_succ_of_lt (Nat.lt_succ_of_lt lt)
  · have a1 := bnd (j + 1)
    have a2 : is.getD j 0 ∈ is := by
      rw [List.getD_eq_getElem?_getD, List.getElem?_eq_getElem (by omega)]
      exact List.getElem_mem _
    have a3 := hpos _ a2
    have a4 := bnd j
    have a5 : preSum (fun i => is.getD i 0) (j + 1) = (is.take (j + 1)).sum := preSum_getD is (j + 1)
    have a6 : preSum (fun i => is.getD i 0) j = (is.take j).sum := preSum_getD is j
    have a7 : preSum (fun i => is.getD i 0) (j + 1) = preSum (fun i => is.getD i 0) j + is.getD j 0 := rfl
    unfold InLong
    dsimp only
    rw [a5]
    rw [a5, a6] at a7
    refine ⟨⟨by omega, by omega⟩, by omega, by omega⟩
  · have e : preSum (fun i => is.getD i 0) vs.length = is.sum := by rw [preSum_getD, n1, List.take_length]
    rw [e]
    refine ⟨.int is.sum, H1, I1.kept (t' := tk) fun b u z => hk b u (fun hmem => ?_) (Heap.get?_push_of_some _ (lay b u z)), ⟨t', rfl⟩, q⟩
    have e1 := List.mem_singleton.mp hmem
    have e2 := Heap.lt_size z
    rw [sz] at e1
    rw [e1] at e2
    exact absurd e2 (Nat.not_lt.mpr (Nat.le_succ _))
section
variable {c : Ct} {ρ : EnvT} {σ : Sg} {o : Expr} {p pos apos mpos : Pos} {x : DT} {ks : CK}
theorem tv_sumV [Calm c] (hg : GlS c "sum") (hm : c.mg "sum" = none) (ho : TV c o ρ σ x) (hx : DiT σ x (iD ks)) (hp : ∀ q ∈ ks, 0 ≤ q.2) (hs : (ks.map (·.2)).sum < 2 ^ 62) (hbase : ∀ env, attributeBase o "values" env (eval o env) = eval o env := by intro _; rfl) (hline : (apos.endLine == mpos.line) = true := by rfl)
    (hse : ∀ env, starEach [Expr.Call (.Attribute o "values" apos) [] [] mpos] env = [(false, eval (Expr.Call (.Attribute o "values" apos) [] [] mpos) env)] := by intro _; rfl) : TV c (.Call (.Name "sum" p) [.Call (.Attribute o "values" apos) [] [] mpos] [] pos) ρ σ (.int (ks.map (·.2)).sum) := ⟨fun {Q E} q => ⟨fun X hX st H K w r xc Q' fo => by
  have hc := con_calm hX
  have hX' := hX
  cases hX'
  refine cE_of (pe_sumVals hc hg hm cE_pe (hbase _) hline (hse _)) ?_
  refine (ho.to (Q := fun d σ' => d = x ∧ σ' = σ) (E := E) ⟨rfl, rfl⟩).run X hX st H K w r xc _ fun v d σ1 H1 K1 s1 w1 r1 ⟨e1, e2⟩ => ?_
  subst e1 e2
  obtain ⟨a, vs, rfl, q1, ra⟩ := hx.now w1 r1
  have hv : ∀ (ks : CK) (vs : List (Key × V)), RepK X.K H1 vs (iD ks) → vs.map (·.2) = (ks.map (·.2)).map V.int := by
    intro ks
    induction ks with
    | nil => intro vs h; cases h; rfl
    | cons k ks ih =>
      intro vs h
      cases h with
      | cons h t =>
        cases h
        rw [List.map_cons, List.map_cons, List.map_cons, ih _ t]
  exact ⟨a, vs, ks.map (·.2), rfl, q1, hv ks vs ra, fun i hi => by obtain ⟨z, hz, rfl⟩ := List.mem_map.mp hi; exact hp z hz, hs, fo _ _ _ H1 K1 s1 w1 (.int _) q⟩⟩⟩
end
end Y

/-! Yw: dicts written with several pairs; classmethods as values. -/
namespace Y
open PySem PySem.Spec PyProof.Rows L2 SX Z
section
variable {c : Ct} {ρ : EnvT} {σ : Sg} {k v : Expr} {ks : List (Option Expr)} {vs : List Expr} {pos : Pos} {kvs : List (DK × DT)} {y : DT} {Q : DT → Sg → Prop} {E : TX}
/-- pairs by values -/
structure TVP (c : Ct) (pos : Pos) (ks : List (Option Expr)) (vs : List Expr) (ρ : EnvT) (σ : Sg) (kvs : List (DK × DT)) : Prop where
  run : ∀ X, Con c X → ∃ trs, PPs X pos ks vs trs ∧ ks.all (·.isSome) = true ∧ ks.length = vs.length ∧ kvs.length = ks.length ∧ ∀ st H K, Wd c.K H σ K → REnv c.K H ρ st → ∀ Q' : List (V × V) → Hp → Prop, (∀ kvs' H' K', Gw H σ K H' σ K' → Wd c.K H' σ K' → RepK c.K H' kvs' kvs → Q' (kvs'.map fun kv => (kV kv.1, kv.2)) K') → tPairs trs st K Q'
theorem RepK.same' {F : PySem.W.Frag} {H H' : Hp} (s : Same H H') {v : List (Key × V)} {d : List (DK × DT)} (r : RepK F H v d) : RepK F H' v d := RepK.same s r
theorem tvp_nil : TVP c pos [] [] ρ σ [] := ⟨fun X hX => ⟨[], pps_nil, rfl, rfl, rfl, fun st H K w r Q' f => f [] H K Gw.refl w .nil⟩⟩
theorem tvp_cons {kk : DK} (h1 : TV c k ρ σ (dk kk)) (h2 : TV c v ρ σ y) (h3 : TVP c pos ks vs ρ σ kvs) : TVP c pos (some k :: ks) (v :: vs) ρ σ ((kk, y) :: kvs) := ⟨fun X hX => by
  obtain ⟨trs, hp, ha, hl, hn, hr⟩ := h3.run X hX
  refine ⟨_, pps_cons cE_pe cE_pe hp, by simpa using ha, by simp [hl], by simp [hn], fun st H K w r Q' f => ?_⟩
  refine (h1.to (Q := fun d σ' => d = dk kk ∧ σ' = σ) (E := TX0) ⟨rfl, rfl⟩).run X hX st H K w r xc0 _ fun x d1 σ1 H1 K1 g1 w1 r1 ⟨z1, z2⟩ => ?_
  subst z1 z2
  refine (h2.to (Q := fun d σ' => d = y ∧ σ' = σ1) (E := TX0) ⟨rfl, rfl⟩).run X hX st H1 K1 w1 (r.same g1.b) xc0 _ fun z d2 σ2 H2 K2 g2 w2 r2 ⟨z1, z2⟩ => ?_
  subst z1 z2
  cases r1.key
  refine hr st H2 K2 w2 (r.same (g1.trans g2).b) _ fun kvs' H3 K3 g3 w3 r3 => ?_
  exact f ((keyD kk, z) :: kvs') H3 K3 (g1.trans (g2.trans g3)) w3 (.cons (r2.same g3.b) r3)⟩
theorem tvp_consS {s : List Nat} (h1 : TV c k ρ σ (.str s)) (h2 : TV c v ρ σ y) (h3 : TVP c pos ks vs ρ σ kvs) : TVP c pos (some k :: ks) (v :: vs) ρ σ ((.inr s, y) :: kvs) := tvp_cons (kk := .inr s) h1 h2 h3
theorem te_dictN (h : TVP c pos ks vs ρ σ kvs) (nd : (kvs.map (·.1)).Nodup) (q : ∀ p, σ p = none → Q (.ref p) (su σ p (.dct kvs))) (h0 : ks ≠ [] := by exact nofun) (h15 : ks.length ≤ 15 := by exact Nat.le_of_ble_eq_true rfl) : TE c (.Dict ks vs pos) ρ σ Q E := ⟨fun X hX st H K w r xc Q' f => by
  obtain ⟨trs, hps, ha, hl, hn, hr⟩ := h.run X hX
  refine cE_of (pe_disp hps ha hl h0 h15) fun p hp => ?_
  have hH : H p = none := none_of w.le hp
  have g0 : Gw H σ K H σ (upd K p (.dK [])) := Gw.push hp
  refine hr st H _ (w.push hp) r _ fun kvs' H1 K1 g1 w1 rk => ?_
  obtain ⟨e1, n1, m1⟩ := g1.hid (o := .dK []) upd_same (fun _ z => nomatch z) (w.free hp) hH
  refine ⟨e1, kvs', rfl, by rw [rk.length, hn]; exact h15, ?_⟩
  have gg := (g0.trans g1).touch (o := .dK (mergeK [] kvs')) hp
  have rm : RepK c.K H1 (mergeK [] kvs') kvs := by
    have := RepK.merge kvs [] kvs' [] rk .nil
    rwa [fold_nd kvs [] (by simpa using nd), List.nil_append] at this
  exact f _ _ _ H1 _ (gg.add hp) ((w1.touch m1 n1 e1 (fun _ z => nomatch z)).add (c := .dct kvs) m1 ⟨_, upd_same, rm⟩) (.ref p) (q p n1)⟩
theorem tv_dictN (h : TVP c pos ks vs ρ σ kvs) (nd : (kvs.map (·.1)).Nodup) (h0 : ks ≠ [] := by exact nofun) (h15 : ks.length ≤ 15 := by exact Nat.le_of_ble_eq_true rfl) : TV c (.Dict ks vs pos) ρ σ (.dct kvs) := ⟨fun {Q E} q => te_frz (te_dictN h nd (fun p hp => ⟨p, _, rfl, su_same, by rw [sd_su hp]; exact q⟩) h0 h15)⟩
end
section
variable {c : Ct} {ρ : EnvT} {σ : Sg} {e a o : Expr} {es : List Expr} {pos p apos : Pos} {d x : DT} {C : Addr} {m n : Str} {k : Nat} {ps : List Str} {spec : TSpec}
theorem tv_clsm [Calm c] {ds : List DT} (mt : DtC c.P c.w c.K c.mg c.base C m ps k spec) (hk : k ≤ c.k) (hg : GlS c n) (hm : c.mg n = some (.ref C)) (ha : TVA c (a :: es) ρ σ ds) (hs : ∀ {Q : DT → Sg → Prop} {E : TX}, Q d σ → spec (.ref C :: ds) σ Q E)
    (heq : ∀ env, ∃ pl : Sem Bool, eval (.Call (.Attribute (.Name n p) m apos) (a :: es) [] pos) env = (do
      let ov ← eval (.Name n p) env
      standAt apos.atName
      let (f, first) ← holding [ov] (getMethod ov m pl)
      callWith pos f first (backTo pos (starEach (a :: es) env)) (backToKw pos (keywordEach [] env))))
    (hdb : (n == ("__debug__" : Str)) = false := by decide) (he : ∀ env, starEach (a :: es) env = (false, eval a env) :: starEach es env := by intro _; rfl) (hpl : ∀ pos env, (backTo pos (starEach es env)).any (·.1) = false := by intro _ _; rfl) :
    TV c (.Call (.Attribute (.Name n p) m apos) (a :: es) [] pos) ρ σ d := ⟨fun {Q E} q => te_clsm mt hk hg hm (ha.to (hs q)) heq hdb he hpl⟩
theorem tv_own_m {c : Ct} [Calm c] {ρ : EnvT} {σ : Sg} {a o : Expr} {es : List Expr} {pos apos : Pos} {d : DT} {ds : List DT} {C : Addr} {fs : List (Str × DT)} {m : Str} {k : Nat} {ps : List Str} {spec : TSpec} (mt : DtM c.P c.w c.K c.mg c.base C m ps k spec) (hk : k ≤ c.k) (hc : Cls c.K C)
    (ho : TV c o ρ σ (.obj C fs)) (hl : fs.lookup m = none) (ha : TVA c (a :: es) ρ σ ds) (hs : ∀ {Q : DT → Sg → Prop} {E : TX}, Q d σ → spec (.obj C fs :: ds) σ Q E)
    (heq : ∀ env, ∃ pl : Sem Bool, eval (.Call (.Attribute o m apos) (a :: es) [] pos) env = (do
      let ov ← eval o env
      standAt apos.atName
      let (f, first) ← holding [ov] (getMethod ov m pl)
      callWith pos f first (backTo pos (starEach (a :: es) env)) (backToKw pos (keywordEach [] env))))
    (he : ∀ env, starEach (a :: es) env = (false, eval a env) :: starEach es env := by intro _; rfl) (hpl : ∀ pos env, (backTo pos (starEach es env)).any (·.1) = false := by intro _ _; rfl) : TV c (.Call (.Attribute o m apos) (a :: es) [] pos) ρ σ d :=
  ⟨fun q => te_own_m mt hk hc (ho.to ⟨fs, rfl, hl, ha.to (hs q)⟩) heq he hpl⟩
end
end Y

/-! Ye: exceptions of own classes as values. -/
namespace PySem.W
open PySem PySem.Spec PySem.Calls PyProof.Rows
/-- all that is asked of the text of such a class: one sum for the kernel -/
def excB (K : Frag) (C : Addr) : Bool :=
  [findIn K (.ref C) "__getattribute__" == some (some (.builtin "BaseException.__getattribute__")), findIn K (.ref C) "__getattr__" == some none, subIn K (.ref C) (.type "BaseException") == some true, hasDictIn K C,
   findIn K (.ref C) "__class__" == some (some (.builtin "object.__class__")), specialIn K (.builtin "object.__class__") "__get__" == some (some (.builtin "getset_descriptor.__get__")), takesIn K (.builtin "object.__class__") == some true,
   mroIn K C (.type "object") == some true, typeIn K (.ref C) == some (.type "type"), keepIn K (.ref C)].all id
structure ExcA (K : Frag) (C : Addr) : Prop extends L2.ExcC K C where
  ty : typeIn K (.ref C) = some (.type "type")
  kp : keepIn K (.ref C) = true
theorem excB_ok {K : Frag} {C : Addr} (h : excB K C = true) : ExcA K C := by
  unfold excB at h
  simp only [List.all_cons, List.all_nil, id_eq, Bool.and_true, Bool.and_eq_true, beq_iff_eq] at h
  obtain ⟨h1, h2, h3, h4, h5, h6, h7, h8, h9, h10⟩ := h
  exact { hg := h1, hk := h2, hs := h3, hd := h4, ha := h5, hn := h6, ht := h7, hm := h8, ty := h9, kp := h10 }
section
variable {prog : Program} {w : World} {A : Around} {E : Value → Shared → Prop} {hp : Heap} {g : Array GenState} {d : Drawn} {t : Nat} {os : OsState} {K : Frag} {x D : Addr} {ox : Obj} {od : Option Obj}
/-- its class, asked of an exception that may have a dict -/
theorem ask_cls {Q : Option Value → Shared → Prop} (Z : L2.ExcC K D) (X : K.In hp) (I : InstAt hp x ox D od) (hf : findObj K D od "__class__" = some (.bind (.builtin "getset_descriptor.__get__") (.builtin "object.__class__")))
    (h : Q (some (.ref D)) ⟨hp, g, d, t + 1, os⟩) : wpAny (model prog w) A (getAttr? (.ref x) "__class__") Q E ⟨hp, g, d, t, os⟩ := by
  have tyL := I.type (M := model prog w)
  have isE : Looks (model prog w) hp (isInstance (.ref x) (.type "BaseException")) true := tyL.andThen (looks_subIn X Z.hs)
  have ownGet : (onTheHeap (Value.ref D) && Value.builtin "BaseException.__getattribute__" == Value.builtin "object.__getattribute__") = false := (congrArg (true && ·) (show (Value.builtin "BaseException.__getattribute__" == Value.builtin "object.__getattribute__") = false by decide +kernel))
  unfold getAttr? getAttrBy? getAttrBy
  refine wpAny_bind (wpAny_mkText (wpAny_bind (wpAny_attempt (wpAny_holding (wpAny_bind (tyL.at (wpAny_bind ((looks_findIn X Z.hg).at ?_))))))))
  show wpAny _ _ (if (onTheHeap (Value.ref D) && Value.builtin _ == Value.builtin _) = true then _ else _) _ _ _
  rw [if_neg (by rw [ownGet]; exact Bool.false_ne_true)]
  unfold getAttrByItsOwn hookBefore callGetattribute boundAndCalled
  refine wpAny_bind ?_
  rw [if_pos (show onTheHeap (Value.ref D) = true from rfl)]
  refine (looks_findIn X Z.hk).at (wpAny_bind (wpAny_attempt (wpAny_holding ?_)))
  rw [if_neg (by decide), PySem.F.excAttr_ValueError.ga.bind (.ref x)]
  refine wpAny_bind (wpAny_pure ?_)
  refine wpAny_call (f := .builtin "BaseException.__getattribute__") (pos := [.ref x, .str "__class__" t]) (codeAny_call_builtin PySem.F.excAttr_ValueError.ga.plain PySem.F.entry_bexc_ga ?_)
  refine @check_slot (model prog w) _ _ ⟨hp, g, d, t + 1, os⟩ "BaseException.__getattribute__" "BaseException" "__getattribute__" (.ref x) [.str "__class__" t] [] _ (by decide +kernel) (by decide +kernel) isE (F.args_bexc_ga _ _) ?_
  unfold Builtin.«object.__getattribute__»
  refine wpAny_bind (wpAny_of_eq (a := ((Value.ref x : Value), [Value.str "__class__" t])) (by simp only [slotArgs]; rfl) (wpAny_bind (wpAny_pure (wpAny_bind (tyL.at (wpAny_bind ((looks_find X I hf).at ?_)))))))
  refine wpAny_bind (m := holding [Value.builtin "object.__class__"] (call (.builtin "getset_descriptor.__get__") [.builtin "object.__class__", .ref x, .ref D])) (wpAny_holding (wpAny_call (class_get (s := ⟨hp, g, d, t + 1, os⟩) X I Z.hm (wpAny_pure ?_))))
  exact handed_on (v := .ref D) rfl (by first | exact wpAny_pure (wpAny_pure h) | exact wpAny_pure h | exact wpAny_pure (wpAny_bind (wpAny_pure (wpAny_pure h))))
end
end PySem.W
namespace PySem.W
open PySem PySem.Spec PySem.Calls PyProof.Rows
theorem cls_at {K : Frag} {D : Addr} (hd : hasDictIn K D = true) : ∃ c dd cd sl, K.lookup D = some ⟨c, dd, .cls cd, sl⟩ := by
  obtain ⟨cd, hc, _⟩ := any_some hd
  unfold clsIn at hc
  split at hc
  · next q => exact ⟨_, _, _, _, q⟩
  · cases hc
/-- how such an exception stands in the heap -/
def ExcAt (K : Frag) (D x : Addr) (h : Heap) : Prop := ∃ ox od, InstAt h x ox D od ∧ findObj K D od "__class__" = some (.bind (.builtin "getset_descriptor.__get__") (.builtin "object.__class__"))
theorem kitx_e {K : Frag} {x D : Addr} (Z : L2.ExcC K D) : KitX K (.ref x) (.ref D) (ExcAt K D x) where
  ty := fun _ _ _ ⟨_, _, I, _⟩ => I.type
  it := fun _ h X _ => by
    obtain ⟨c, dd, cd, sl, q⟩ := cls_at Z.hd
    intro A1 Q1 E1 s1 k1 q1
    unfold isType loadHead
    exact wpAny_bind (wpAny_loadPart (k1 D _ (X D _ q)) (wpAny_pure q1))
  ne := fun h tp _ _ _ _ X z => by
    obtain ⟨c, dd, cd, sl, q⟩ := cls_at Z.hd
    refine Bool.eq_false_iff.mpr fun r => ?_
    have e := Value.ref.inj (beq_iff_eq.mp r)
    rw [← e, X D _ q] at z
    cases z
  ca := fun {_ _ _ _ _ s} X ⟨_, _, I, hf⟩ k => by
    obtain ⟨hp, g, d, t, os⟩ := s
    exact ask_cls Z X I hf k
end PySem.W
namespace Y
open PySem PySem.Spec PyProof.Rows L2 SX Z
section
variable {c : Ct} {ρ : EnvT} {σ : Sg} {Q : DT → Sg → Prop} {E : TX} {e : Expr} {pos p : Pos} {fs : List (Str × DT)} {C D : Addr} {b : Bool}
abbrev veB : List Value := [.type "ValueError", .type "Exception", .type "BaseException", .type "object"]
theorem exc_at {X : Cx} {pins : List (Addr × Obj)} {st : L2.St} {H K : Hp} {s : Shared} {v : V} (Z : ExcC X.K C) (w : Wd X.K H σ K) (I : Inv X pins st K s) (r : Rep X.K H v (.exc C fs)) : ∃ a, v = .ref a ∧ PySem.W.ExcAt X.K C a s.heap := by
  have ic : (PySem.W.clsIn X.K C).isSome = true := by
    obtain ⟨cd, hc, _⟩ := PySem.W.any_some Z.hd
    rw [hc]
    rfl
  cases r with
  | @exc0 a _ e =>
    obtain ⟨⟨oe, vs, ho, ⟨h1, h2⟩, hd, _⟩, _, _⟩ := (show ObjOk X.prog X.w K s.heap a (ExO (.ref C) a) from I.hok a _ (w.le _ _ e))
    obtain ⟨oc, od, oda, osl⟩ := oe
    dsimp only at h1 h2 hd
    subst h1 h2 hd
    exact ⟨a, rfl, _, none, ⟨ho, rfl, rfl, trivial⟩, PySem.W.findObj_dataN ic Z.ha Z.hn Z.ht⟩
  | @exc1 a _ dx vs _ e e2 r =>
    obtain ⟨t1, ho⟩ := exo_at I.hok (w.le _ _ e)
    obtain ⟨mA, hn, _⟩ := exd_at I.hok (w.le _ _ e2)
    obtain ⟨od, hod, _⟩ := lookIn_ns hn
    exact ⟨a, rfl, _, some od, ⟨ho, rfl, rfl, hod⟩, PySem.W.findObj_data ic Z.ha Z.hn Z.ht⟩
/-- isinstance of an exception, an own class or a built-in one -/
theorem pf_isX {y : DT} {cv : Value} (Z : ExcC c.K C) (hy : (y = .ref D ∧ cv = .ref D) ∨ ∃ n, y = .ty n ∧ cv = .type n) (q : PySem.W.kitOne c.K (.ref C) cv = some b) : POF c (.builtin "isinstance") [.exc C fs, y] σ (.bl b) := ⟨fun X hX H K w vs ra Q k => by
  have hX' := hX
  cases hX'
  obtain ⟨v, u2, rfl, rv, ru⟩ := repA_two ra
  intro pins s st us I rr
  obtain ⟨x1, x2, rfl, r1, r2⟩ := vals2 rr
  obtain ⟨a, rfl, ea⟩ := exc_at Z w I rv
  cases r1
  have e2 : x2 = cv := by
    rcases hy with ⟨e, e'⟩ | ⟨n, e, e'⟩
    · subst e e'
      cases ru
      exact r2
    · subst e e'
      cases ru
      exact r2
  subst e2
  exact PySem.W.kia_one (PySem.W.kitx_e Z) I.kIn ea q (fun z => nomatch z) fun tk => ⟨.bl b, K, I.tok tk, rfl, k _ H K Gw.refl w (.bl b)⟩⟩
/-- X(e): a class without an __init__ of its own -/
theorem te_exc1 {x : Str} (q : PySem.W.excIn c.K C veB "ValueError.__new__" = true) (kC : PySem.W.keepIn c.K (.ref C) = true) (hg : GlS c x) (hm : c.mg x = some (.ref C)) (h : TE c e ρ σ (fun _ σ1 => Q (.exc C []) σ1) E)
    (hs : ∀ env, starEach [e] env = (false, eval e env) :: starEach [] env := by intro _; rfl) (hdb : (x == ("__debug__" : Str)) = false := by decide) : TE c (.Call (.Name x p) [e] [] pos) ρ σ Q E := ⟨fun X hX st H K w r xc Q' f => by
  have hX' := hX
  cases hX'
  refine cE_of (pe_exc1 (bmB := veB) PySem.F.excBase_ValueError q hm kC hg cE_pe (hs _) hdb) ?_
  refine h.run X hX st H K w r xc _ fun v d σ1 H1 K1 s1 w1 r1 q1 => ?_
  intro a ha
  obtain ⟨s2, w2⟩ := w1.new (o := ExO (.ref C) a) ha
  exact f _ _ σ1 _ _ (s1.trans s2) w2 (.exc0 upd_same) q1⟩
/-- e.f, e an exception -/
theorem te_xfld {n : Str} (Z : ExcC c.K C) (hno : PySem.W.findIn c.K (.ref C) n = some none) (h : TE c e ρ σ (fun d σ1 => ∃ fs x, d = .exc C fs ∧ fs.lookup n = some x ∧ Q x σ1) E)
    (hb : ∀ env, attributeBase e n env (eval e env) = eval e env := by intro _; rfl) : TE c (.Attribute e n pos) ρ σ Q E := ⟨fun X hX st H K w r xc Q' f => fun pins s I => by
  have hX' := hX
  cases hX'
  refine attr_of (hb _) ?_
  refine thn (h.run X hX st H K w r xc (fun v K1 => ∃ fs x σ1 H1, Gw H σ K H1 σ1 K1 ∧ Wd X.K H1 σ1 K1 ∧ Rep X.K H1 v (.exc C fs) ∧ fs.lookup n = some x ∧ Q x σ1) (fun v d σ1 H1 K1 s w1 rv ⟨fs, x, e1, e2, q⟩ => by subst e1; exact ⟨fs, x, σ1, H1, s, w1, rv, e2, q⟩) pins s I) fun u s1 ⟨v, K1, I1, r1, fs, x, σ1, H1, s2, w1, rv, e2, q⟩ => ?_
  cases rv with
  | exc0 => cases e2
  | @exc1 a _ dx vs _ e e3 rf =>
    obtain ⟨y, l, ry⟩ := rf.lookup e2
    obtain ⟨t1, ho⟩ := exo_at I1.hok (w1.le _ _ e)
    obtain ⟨mA, hn, hr⟩ := exd_at I1.hok (w1.le _ _ e3)
    obtain ⟨od, hod, hl⟩ := lookIn_ns hn
    obtain ⟨z, hz, rz⟩ := RelO.some_of (v := y) (o := mA n) (by rw [← l]; exact hr n)
    cases r1
    exact HandSPX.exc_get I1.kIn (od := some od) ⟨ho, rfl, rfl, hod⟩ Z.hg Z.hk Z.hs (PySem.W.findObj_own Z.hd hno rfl (by rw [hl, hz])) (handed_of rz) ⟨y, K1, I1.tok _, rz, f y x σ1 H1 K1 s2 w1 ry q⟩⟩
end
end Y

/-! Yi: exceptions whose class has an __init__ of its own, which calls the base's and keeps one field. -/
namespace Y
open PySem PySem.Spec PyProof.Rows L2 SX Z
/-- OexC as one sum -/
def oexB (K : PySem.W.Frag) (C : Addr) : Bool := (match K.lookup C with
  | some ⟨.type "type", _, .cls ⟨_, _, .ref C' :: bm, _, _, true, _, _, _, _, false⟩, ⟨[_, _, _, _, some (.builtin n), _]⟩⟩ => C' == C && (n == "ValueError.__new__" && HandSPX.refsVE bm)
  | _ => false)
theorem oexB_ok {K : PySem.W.Frag} {C : Addr} (Z : PySem.W.ExcA K C) (h : oexB K C = true) (sa : PySem.W.findIn K (.ref C) "__setattr__" = some (some (.builtin "object.__setattr__"))) : OexC K C := by
  refine ⟨?_, sa, Z.hs, Z.ty, Z.kp⟩
  unfold oexB at h
  split at h
  · next q =>
    simp only [Bool.and_eq_true, beq_iff_eq] at h
    obtain ⟨rfl, rfl, hb⟩ := h
    exact ⟨_, _, _, _, _, _, _, _, _, _, _, _, _, _, _, q, hb⟩
  · cases h
/-- what such an __init__ does -/
def spI (C : Addr) (f : Str) : Sp := fun vs K Q _ => ∃ a v, vs = [.ref a, v] ∧ K a = some (exo a C none) ∧ ∀ dx, K dx = none → dx ≠ a → Q .non (upd (upd K dx (exd dx [(f, v)])) a (exo a C (some dx)))
/-- Base.__init__(self, ..), Base an own class -/
structure BaseI (K : PySem.W.Frag) (mg : Str → Option Value) (x : Str) (B : Addr) (mc : Value) : Prop where
  at_ : mg x = some (.ref B)
  rd : PySem.W.readsIn K B mc = true
  ga : PySem.W.specialIn K (.ref B) "__getattribute__" = some (some (.builtin "type.__getattribute__"))
  ini : PySem.W.findCls K (.ref B) mc "__init__" = some (.val (.builtin "ValueError.__init__"))
theorem pe_binit {X : Cx} {x : Str} {B : Addr} {mc : Value} {ta : L2.TA} {e : Expr} {es : List Expr} {p1 p2 pos : Pos} {pl : Sem Bool} (b : BaseI X.K X.mg x B mc) (hg : Gl X x) (ha : PA X (e :: es) ta)
    (hc : eval (.Call (.Attribute (.Name x p1) "__init__" p2) (e :: es) [] pos) X.env = (do
      let ov ← eval (.Name x p1) X.env
      standAt p2.atName
      let (f, first) ← holding [ov] (getMethod ov "__init__" pl)
      callWith pos f first (backTo pos (starEach (e :: es) X.env)) (backToKw pos (keywordEach [] X.env))) := by rfl)
    (he : starEach (e :: es) X.env = (false, eval e X.env) :: starEach es X.env := by rfl) (hpl : (backTo pos (starEach es X.env)).any (·.1) = false := by rfl) (hdb : (x == ("__debug__" : Str)) = false := by decide) :
    PE X (.Call (.Attribute (.Name x p1) "__init__" p2) (e :: es) [] pos) (tVeI X.K ta) := by
  refine ⟨fun pins s σ H Q I h => ?_⟩
  refine PySem.W.methodCall_KW (ld_glob I hg b.at_ ?_ hdb) hc
  refine PySem.W.method_cls I.kIn b.ga (PySem.W.cls_value I.kIn b.rd b.ini (by decide +kernel) ?_)
  refine PyProof.Rows.callWith_method1 (thn (ha.run pos pins _ σ H _ ((I.tok _)) h) fun us s1 z => ?_) he hpl
  obtain ⟨vs, H1, I1, r1, a, C, ws, ev, hl, T, ea, q⟩ := z
  subst ev
  cases r1 with
  | cons ra rw =>
    cases ra
    exact oinit_ok T I1 ea (by rw [← Paired.length rw, sizeLine_eq]; omega) fun s2 J => ⟨.non, H1, J, rfl, q⟩
theorem init_ok {P : Program} {w : World} {F : PySem.W.Frag} {mg : Str → Option Value} {base : Heap} {st : Stmt} {qual f pn : Str} {t : Str} {fI C B : Addr} {fd : FuncData} {k kk : Nat} {mc : Value} {p1 p2 p3 p4 p5 p6 p7 p8 p9 p10 : Pos}
    (Fn : Fun F "__init__" qual st fI fd) (S : FnScope ["self", pn] ["self", pn] (defScope st)) (T : OexC F C) (hno : PySem.W.findIn F (.ref C) f = some none) (b : BaseI F mg "WindowError" B mc)
    (h1 : visB (defScope st) "self" = true) (h2 : visB (defScope st) pn = true) (h3 : (defScope st).names.lookup ("WindowError" : Str) = some .globalImplicit)
    (hbody : defBody st = [.Expr (.Call (.Attribute (.Name "WindowError" p1) "__init__" p2) [.Name "self" p3, .Constant (.str t) kk p4] [] p5) p6, .Assign [.Attribute (.Name "self" p7) f p8] (.Name pn p9) p10])
    (hc : ∀ env, ∃ pl : Sem Bool, eval (.Call (.Attribute (.Name "WindowError" p1) "__init__" p2) [.Name "self" p3, .Constant (.str t) kk p4] [] p5) env = (do
      let ov ← eval (.Name "WindowError" p1) env
      standAt p2.atName
      let (f, first) ← holding [ov] (getMethod ov "__init__" pl)
      callWith p5 f first (backTo p5 (starEach [.Name "self" p3, .Constant (.str t) kk p4] env)) (backToKw p5 (keywordEach [] env))))
    (hd : (pn == ("__debug__" : Str)) = false := by decide) (hcd : (pn == ("__classdict__" : Str)) = false := by decide) : FnG P w F mg base (k + 1) fI fd ["self", pn] (spI C f) := by
  refine fnC_of (hp := none) Fn S (fun vs K Q E ⟨a, v, h, _⟩ => by rw [h]; rfl) (fun cdv A outer s K vs Q E hr hA hot hG ⟨a, v, h, ea, q⟩ => ?_)
  subst h
  rw [hbody]
  let X := cxC none P w F mg base ["self", pn] qual (defScope st) fI cdv A outer s K E
  have vs1 : PE X (.Name "self" p3) (tVar 0) := pe_var rfl (visB_vis h1) (by decide) (by decide)
  have vs2 : PE X (.Name "self" p7) (tVar 0) := pe_var rfl (visB_vis h1) (by decide) (by decide)
  have vn : PE X (.Name pn p9) (tVar 1) := pe_var rfl (visB_vis h2) hd hcd
  obtain ⟨pl, hpl⟩ := hc X.env
  refine ⟨_, pss_cons (ps_expr (pe_binit (X := X) b h3 (pa_cons vs1 (pa_cons (pe_str (X := X)) pa_nil)) hpl (by rfl) (by rfl) (by decide))) (pss_one (ps_ost vs2 vn)), ?_⟩
  refine ⟨_, rfl, ?_⟩
  refine ⟨a, C, [.str t], rfl, Nat.le_of_ble_eq_true rfl, T, ea, ?_⟩
  refine ⟨v, rfl, _, rfl, a, C, rfl, T, hno, .inl ⟨ea, fun dx n ne => ?_⟩⟩
  exact q dx n ne
/-- a class with such an __init__ -/
structure ExcI (P : Program) (w : World) (F : PySem.W.Frag) (mg : Str → Option Value) (base : Heap) (C : Addr) (f : Str) (k : Nat) : Prop where
  o : OexC F C
  run : ∃ fI fd pn, PySem.W.findIn F (.ref C) "__init__" = some (some (.ref fI)) ∧ PySem.W.typeIn F (.ref fI) = some (.type "function") ∧ Binds F fd ["self", pn] [] ∧ FnG P w F mg base k fI fd ["self", pn] (spI C f)
section
variable {c : Ct} {ρ : EnvT} {σ : Sg} {Q : DT → Sg → Prop} {E : TX} {e : Expr} {pos p : Pos} {C : Addr}
theorem te_exc2 [Calm c] {x f : Str} {k : Nat} (T : ExcI c.P c.w c.K c.mg c.base C f k) (hk : k + 1 ≤ c.k) (hg : GlS c x) (hm : c.mg x = some (.ref C)) (h : TE c e ρ σ (fun d σ1 => Q (.exc C [(f, d)]) σ1) E)
    (hs : ∀ env, starEach [e] env = (false, eval e env) :: starEach [] env := by intro _; rfl) (hdb : (x == ("__debug__" : Str)) = false := by decide) : TE c (.Call (.Name x p) [e] [] pos) ρ σ Q E := ⟨fun X hX st H K w r xc Q' fo => fun pins s I => by
  obtain ⟨To, fI, fd, pn, iC, tI, hb, F1⟩ := T
  have hX' := hX
  cases hX' with
  | mk _ k' Wx fl hpp hrH hcf hh hp' ht hf hN hU hst =>
    obtain rfl : hpp = none := ‹Calm _›.h
    obtain ⟨hc, hr⟩ := hcf rfl
    obtain ⟨nm, q, N, bs, bm, sn, sub, ab, col, dd, k0, k1, k2, k3, k5, hC, hbm⟩ := To.cls
    refine wpAny_Call_Name_kw (ld_glob I hg hm ?_ hdb)
    have hev := h.run X hX st H K w r xc (fun v K1 => ∃ d σ1 H1, Gw H σ K H1 σ1 K1 ∧ Wd X.K H1 σ1 K1 ∧ Rep X.K H1 v d ∧ Q (.exc C [(f, d)]) σ1) (fun v d σ1 H1 K1 s1 w1 r1 q1 => ⟨d, σ1, H1, s1, w1, r1, q1⟩) pins s I
    refine PySem.W.callWith_K (h₀ := X.base) I.ok.mod.kin To.kC ?_ (hs _) (by rfl)
    rw [hs]
    show wpAny _ _ (spliced ((false, eval e X.env) :: backTo pos (starEach [] X.env))) _ _ s
    refine Calls.spliced_cons (thn hev fun u s1 ⟨v, K1, I1, r1, d, σ1, H1, g1, w1, rv, q1⟩ => Calls.spliced_nil ⟨I1.kIn, ?_⟩)
    show wpAny _ _ (call (.ref C) [u]) _ _ _
    obtain ⟨hp, g, dr, tk, os⟩ := s1
    have nw : hp.objs.size ≤ hp.objs.size + 1 := Nat.le_succ _
    have hn : K1 (hp.objs.size + 1) = none := I1.hok.fresh nw
    have keep2 : ∀ b o, hp.get? b = some o → ((hp.push (PySem.W.kdv_tup [u])).push (PySem.HandSPX.excO C hp.objs.size)).get? b = some o := fun b o z => Heap.get?_push_of_some _ (Heap.get?_push_of_some _ z)
    have here : ((hp.push (PySem.W.kdv_tup [u])).push (PySem.HandSPX.excO C hp.objs.size)).get? (hp.objs.size + 1) = some (PySem.HandSPX.excO C hp.objs.size) := by heap_get
    have I2 := I1.laid (t' := tk) (a := hp.objs.size + 1) (o := exo (hp.objs.size + 1) C none) keep2 nw (exo_ok here)
    have bnd := hb _ [Value.ref (hp.objs.size + 1), u] I2.kIn (show ([Value.ref (hp.objs.size + 1), u] ++ ([] : List Value)).length = 2 from rfl)
    refine wpAny_call (PySem.HandSPX.call_own F.excBase_ValueError (fun Y => PySem.HandSPX.refsVE_contains Y bm hbm) (I1.kIn _ _ hC) (PySem.W.looks_findIn I1.kIn iC) (fun self => PySem.W.bind_fn I1.kIn self tI) (by rw [sizeLine_eq]; exact Nat.le_of_ble_eq_true rfl)
      (codeAny_mono (F1.calm _ ((hr.mono hk).make C [u] []) hU X.stack _ _ (I2.env0.make C [u] []) ⟨[Value.ref (hp.objs.size + 1), u], []⟩ [Value.ref (hp.objs.size + 1), u] [.ref (hp.objs.size + 1), v] (.cons rfl (.cons r1 .nil)) bnd
        (fun z K2 => z = .non ∧ ∃ dx, upd K1 (hp.objs.size + 1) (exo (hp.objs.size + 1) C none) dx = none ∧ dx ≠ hp.objs.size + 1 ∧ K2 = upd (upd (upd K1 (hp.objs.size + 1) (exo (hp.objs.size + 1) C none)) dx (exd dx [(f, v)])) (hp.objs.size + 1) (exo (hp.objs.size + 1) C (some dx))) (fun _ _ _ => False)
        ⟨hp.objs.size + 1, v, rfl, upd_same, fun dx n ne => ⟨rfl, dx, n, ne, rfl⟩⟩) fun res s3 z => ?_))
    match res, z with
    | .error e, z =>
      obtain ⟨_, _, _, _, _, _, _, _, _, _, _, _, n⟩ := z
      exact n.elim
    | .ok (.ret u2), z =>
      obtain ⟨v2, K3, I3, r3, e3, dx, n, ne, e4⟩ := I2.after z
      subst e3
      refine ⟨r3, .ref (hp.objs.size + 1), K3, I3, rfl, ?_⟩
      have nd : K1 dx = none := by rw [upd_ne ne] at n; exact n
      obtain ⟨g2, w2⟩ := w1.new (o := exd dx [(f, v)]) nd
      have na : upd K1 dx (exd dx [(f, v)]) (hp.objs.size + 1) = none := by rw [upd_ne ne.symm]; exact hn
      obtain ⟨g3, w3⟩ := w2.new (o := exo (hp.objs.size + 1) C (some dx)) na
      have e5 : K3 = upd (upd K1 dx (exd dx [(f, v)])) (hp.objs.size + 1) (exo (hp.objs.size + 1) C (some dx)) := by
        rw [e4]
        funext b
        by_cases hb : b = hp.objs.size + 1
        · rw [hb, upd_same, upd_same]
        · rw [upd_ne hb, upd_ne hb]
          by_cases hd : b = dx
          · rw [hd, upd_same, upd_same]
          · rw [upd_ne hd, upd_ne hd, upd_ne hb]
      rw [e5]
      exact fo _ _ σ1 _ _ (g1.trans (g2.trans g3)) w3 (.exc1 upd_same (by rw [upd_ne ne]; exact upd_same) (.cons (rv.same (g2.trans g3).b) .nil)) q1
    | .ok .next, z => exact z.elim
    | .ok .brk, z => exact z.elim
    | .ok .cont, z => exact z.elim⟩
end
end Y

/-! Yt: try with several clauses that give their exception a name. -/
namespace Y
open PySem PySem.Spec PyProof.Rows L2 L2H HotX
abbrev ClT := Value × Nat × (Addr → Value → Option Addr → L2.TS)
def outN (i : Nat) (D : Ends) : Ends := { nx := fun σ' H' => D.nx (σ'.set i none) H', rt := D.rt, bk := fun σ' H' => D.bk (σ'.set i none) H', ct := fun σ' H' => D.ct (σ'.set i none) H' }
def wNamed (K : PySem.W.Frag) (Wout : WX) (D : Ends) : List ClT → WX
  | [] => Wout
  | (c, i, ts) :: r => fun cls d σ H => ∃ b, PySem.W.exmOne K cls c = some b ∧ (b = true → ∀ a, H a = none → ts a cls d (outN i D) (σ.set i (some (.ref a))) H) ∧ (b = false → wNamed K Wout D r cls d σ H)
inductive HdN (X : Cx) : List ExceptHandler → List ClT → Prop
  | nil : HdN X [] []
  | cons {x n : Str} {c : Value} {i : Nat} {ts : Addr → Value → Option Addr → L2.TS} {b₀ : Stmt} {suite : List Stmt} {np pos' : Pos} {hds : List ExceptHandler} {l : List ClT} (hi : X.N[i]? = some n) (hln : X.env.kindOf n = some .local) (hc : Names X x c)
      (hsu : ∀ (a : Addr) (oe : Obj) (cls : Value) (d : Option Addr) (pn : List (Addr × Obj)), L2N.Zn cls d oe → (∃ vs, oe.data = .fields vs) → PSs (X.suite a ((a, oe) :: pn)) (b₀ :: suite) (ts a cls d)) (r : HdN X hds l) :
      HdN X (.ExceptHandler (some (.Name x np)) (some n) (b₀ :: suite) pos' :: hds) ((c, i, ts) :: l)
section
variable {X : Cx} {body : List Stmt} {h₀ : ExceptHandler} {hds : List ExceptHandler} {l : List ClT} {pos : Pos} {tb : WX → L2.TS} {Wout : WX}
/-- the clauses, one after the other -/
theorem clauses_ok {pins : List (Addr × Obj)} {σ' : L2.St} {H' : Hp} {sI s' : Shared} {B h3 : Heap} {a : Addr} {cls : Value} {d : Option Addr} {D : Ends} (hs : X.stack = X.env :: X.outer) (hf : X.env.frame = some X.env.locals) (hN : X.N.Nodup) (tk : L2N.Takes X Wout)
    (J : Inv X pins σ' H' sI) (nb : ∀ b o, sI.heap.get? b = some o → b ∉ frs X.stack → B.get? b = some o) (up : sI.heap.UpToSlots h3) (os : s'.os = sI.os) (ag : AllBare s'.gens) (na : H' a = none) (fl3 : HandSPX.FlyingZ B (X.env :: X.outer) a (L2N.Zn cls d) h3) :
    ∀ {hds : List ExceptHandler} {l : List ClT}, HdN X hds l → wNamed X.K Wout D l cls d σ' H' → wpAny (model X.prog X.w) X.A (handleBy (.ref a) X.env hds) (SP X pins D) X.xe { s' with heap := h3 } := by
  have ok := J.ok
  have J3 : Inv X pins σ' H' { s' with heap := h3 } := J.landed nb fl3.1 up os ag
  obtain ⟨oe3, vs3, he3, hz3, hd3⟩ := fl3.there
  have nfr : a ∉ frs (X.env :: X.outer) := fun hm => by
    obtain ⟨_, o', e', hnf⟩ := fl3.2.2.1.mem hm
    rw [he3] at e'
    cases e'
    exact hnf _ hd3
  have nL : a ≠ X.env.locals := fun z => nfr (List.mem_filterMap.mpr ⟨X.env, List.mem_cons_self, by rw [hf, z]⟩)
  have nF : a ∉ X.fs := fun hm => by
    obtain ⟨e, he, q⟩ := List.mem_filterMap.mp hm
    exact nfr (List.mem_filterMap.mpr ⟨e, List.mem_cons_of_mem _ he, q⟩)
  have S3 := J3.suite he3 hd3 na nL nF
  intro hds l hk
  induction hk with
  | nil =>
    intro w
    refine wpAny_handleBy_nil ?_
    obtain ⟨k1, k2, k3, oe, vs, T, oT, ts', he, hz, hd, h1, hr⟩ := id fl3
    unfold PySem.passOn
    refine wpAny_bind (wpAny_field he hd h1 ?_)
    rw [if_neg (show ¬ ((Value.ref T == Value.none) = true) from by simp)]
    have fin : wpAny (model X.prog X.w) X.A (setFlight (.ref a) X.env.frame) (fun _ s4 => wpAny (model X.prog X.w) X.A (throw (.ref a) : Sem Flow) (SP X pins D) X.xe s4) X.xe { s' with heap := h3 } := by
      rw [hf]
      refine HandSPX.setFlight_upZ fl3 fun h4 hh4 up4 => wpAny_throw (tk _ _ ⟨a, B, sI, pins, σ', H', cls, d, rfl, J, nb, up.trans up4, .inr (.inr (by rw [hs]; exact hh4)), na, os, ag, w⟩)
    first
      | exact wpAny_bind (wpAny_pure (wpAny_bind fin))
      | exact wpAny_bind fin
  | @cons x n c i ts b₀ suite np pos' hds2 l2 hi hln hc hsu r ih =>
    intro w
    obtain ⟨b, hb1, hyes, hno⟩ := w
    refine wpAny_handleBy_cons (codeAny_handlers_test ?_) (by intro q; cases q)
    have LT : PySem.W.Looks (model X.prog X.w) h3 (typeOf (.ref a)) cls := fun A Q E s k q => wpAny_typeOf_ref (k _ _ he3) (by rw [hz3.1]; exact q)
    have LM := PySem.W.exm_one (M := model X.prog X.w) (J3.kIn) LT hb1
    have test : ∀ {Q : Value → Shared → Prop} {E : Value → Shared → Prop}, Q c { s' with heap := h3 } → wpAny (model X.prog X.w) (X.A.mark (some (.ref a))) (eval (.Name x np) X.env) Q E { s' with heap := h3 } := fun {Q E} q => by
      obtain ⟨hg, hdbg, hm | ⟨hm, hv, hnn⟩⟩ := hc
      · exact ld_glob (X := X.suite a ((a, oe3) :: (X.pn ++ pins))) S3 hg hm q hdbg
      · exact ld_blt (X := X.suite a ((a, oe3) :: (X.pn ++ pins))) S3 hg hm hv q hnn hdbg
    refine test (LM.here ?_)
    cases b with
    | false =>
      show wpAny _ X.A (handleBy (.ref a) X.env hds2) _ _ _
      exact ih (hno rfl)
    | true =>
      refine codeAny_handlers_suite_as ?_
      refine HandSPX.lands_againZ fl3 fun h4 fl4 up4 => ?_
      have J4 : Inv X pins σ' H' { s' with heap := h4 } := J.landed nb fl4.1 (up.trans up4) os ag
      obtain ⟨oe4, vs4, he4, hz4, hd4⟩ := fl4.there
      have S4 := J4.suite he4 hd4 na nL nF
      refine store_ok (X := X.suite a ((a, oe4) :: (X.pn ++ pins))) (v := .ref a) S4 hN hi (.inl hln) rfl (fun s5 S5 => ?_) (.inr hln)
      refine wpAny_mono ((hsu a oe4 cls d (X.pn ++ pins) hz4 ⟨_, hd4⟩).run [] s5 _ H' _ S5 (hyes rfl a na)) (fun f s6 hsp => ?_) (fun _ _ z => False.elim z)
      have fin : ∀ {σ6 : L2.St} {H6 : Hp} {Q : Shared → Prop}, Inv (X.suite a ((a, oe4) :: (X.pn ++ pins))) [] σ6 H6 s6 → (∀ s7, Inv X pins (σ6.set i none) H6 s7 → Q s7) →
          wpAny (model X.prog X.w) X.A (do bindName X.env n .none; unbindBehindTheSuite X.env n pos') (fun _ s7 => Q s7) X.xe s6 := fun {σ6 H6 Q} S6 hq => gone_ok (S6.unsuite ok) hN hi hln hq
      match f, hsp with
      | .next, ⟨σ6, H6, S6, q6⟩ => exact fin S6 fun s7 J7 => ⟨_, _, J7, q6⟩
      | .brk, ⟨σ6, H6, S6, q6⟩ => exact fin S6 fun s7 J7 => ⟨_, _, J7, q6⟩
      | .cont, ⟨σ6, H6, S6, q6⟩ => exact fin S6 fun s7 J7 => ⟨_, _, J7, q6⟩
      | .ret u, ⟨v6, σ6, H6, S6, r6, q6⟩ => exact fin S6 fun s7 J7 => ⟨_, _, _, J7, r6, q6⟩
theorem ps_tryN (hs : X.stack = X.env :: X.outer) (hf : X.env.frame = some X.env.locals) (hN : X.N.Nodup) (tk : L2N.Takes X Wout)
    (hb : ∀ (W : WX) (pn : List (Addr × Obj)) (xe : Value → Shared → Prop), L2N.Takes (X.tr pn xe) W → PassesOwn (model X.prog X.w) X.A X.env xe → (∀ p ∈ X.pn, p ∈ pn) → PSs (X.tr pn xe) body (tb W))
    (hh : HdN X (h₀ :: hds) l) : PS X (.Try body (h₀ :: hds) [] [] pos) (fun D σ H => tb (wNamed X.K Wout D l) D σ H) := ⟨fun pins s σ H D I h => by
  have ok := I.ok
  refine wpAny_Try_except (wpAny_mono ((hb (wNamed X.K Wout D l) (X.pn ++ pins) (fun e s₁ => wpAny (model X.prog X.w) X.A (noteFrame e X.env) (fun _ s₂ => wpAny (model X.prog X.w) X.A (setFlight e none) (fun _ s₃ =>
    wpAny (model X.prog X.w) X.A (handleBy e X.env (h₀ :: hds)) (SP X pins D) X.xe s₃) X.xe s₂) X.xe s₁) (fun u s' xx => ?_) PassesOwn.looking (fun p hp => List.mem_append_left _ hp)).run [] s σ H D (I.toTry _) h) (fun f s1 hsp => ?_) (fun e s1 he => he))
  · obtain ⟨a, B, sI, pins', σ', H', cls, d, rfl, J', nb, up, sky, na, os, ag, w⟩ := xx
    have J : Inv X pins σ' H' sI := J'.ofTry ok
    refine L2N.Sky.land L2N.Zn.steady (by rw [ok.frames, hs]) hf (by rw [← hs]; exact sky) fun h3 fl3 up3 => ?_
    exact clauses_ok hs hf hN tk J nb (up.trans up3) os ag na fl3 hh w
  · match f, hsp with
    | .next, ⟨σ', H', J', q⟩ => exact wpAny_execs_nil ⟨σ', H', J'.ofTry ok, q⟩
    | .brk, ⟨σ', H', J', q⟩ => exact ⟨σ', H', J'.ofTry ok, q⟩
    | .cont, ⟨σ', H', J', q⟩ => exact ⟨σ', H', J'.ofTry ok, q⟩
    | .ret u, ⟨v, σ', H', J', r, q⟩ => exact ⟨v, σ', H', J'.ofTry ok, r, q⟩⟩
end
end Y

/-! Yx: raise and try over trees; the exception that a suite holds. -/
namespace Y
open PySem PySem.Spec PyProof.Rows L2 L2H HotX SX Z
/-! ### the exception that is handled -/
/-- what is known of it: its class, its dict -/
structure HotE (p : Addr × Obj) (C : Addr) (d : Option Addr) : Prop where
  cls : p.2.cls = .ref C
  dict : p.2.dict = d
theorem hot_inst {X : Cx} {pins : List (Addr × Obj)} {st : L2.St} {H K : Hp} {σ : Sg} {s : Shared} {v : V} {a C : Addr} {oe : Obj} {d : Option Addr} {fs : List (Str × DT)} (Z : ExcC X.K C) (hot : Hot1 X.A (a, oe) ∧ (a, oe) ∈ X.pn) (he : HotE (a, oe) C d) (w : Wd X.K H σ K) (I : Inv X pins st K s) (r : Rep X.K H v (.hot a d fs)) :
    v = .ref a ∧ PySem.W.ExcAt X.K C a s.heap ∧ ∀ n x, fs.lookup n = some x → ∃ y u od, Rep X.K H y x ∧ RelV y u ∧ PySem.W.InstAt s.heap a oe C (some od) ∧ PySem.W.lookIn n od = some (some u) := by
  have ic : (PySem.W.clsIn X.K C).isSome = true := by
    obtain ⟨cd, hc, _⟩ := PySem.W.any_some Z.hd
    rw [hc]
    rfl
  obtain ⟨ha, _⟩ := I.pin (a, oe) (List.mem_append_left _ hot.2)
  obtain ⟨_, vs, hd, _⟩ := hot.1
  have nc : PySem.W.notCls oe = true := by unfold PySem.W.notCls; rw [show oe.data = .fields vs from hd] <;> rfl
  have h1 : oe.cls = .ref C := he.cls
  have h2 : oe.dict = d := he.dict
  cases r with
  | hot0 => exact ⟨rfl, ⟨oe, none, ⟨ha, h1, nc, by rw [h2]; trivial⟩, PySem.W.findObj_dataN ic Z.ha Z.hn Z.ht⟩, fun n x z => by cases z⟩
  | @hot1 _ dx ws ds e rf =>
    have hx : ObjOk X.prog X.w K s.heap dx (.xd ws) := I.hok dx _ (w.le _ _ e)
    obtain ⟨mA, hns, hr⟩ := hx
    obtain ⟨od, ho, hl⟩ := lookIn_ns hns
    refine ⟨rfl, ⟨oe, some od, ⟨ha, h1, nc, by rw [h2]; exact ho⟩, PySem.W.findObj_data ic Z.ha Z.hn Z.ht⟩, fun n x z => ?_⟩
    obtain ⟨y, l, ry⟩ := rf.lookup z
    obtain ⟨u, hu, ru⟩ := RelO.some_of (v := y) (o := mA n) (by rw [← l]; exact hr n)
    exact ⟨y, u, od, ry, ru, ⟨ha, h1, nc, by rw [h2]; exact ho⟩, by rw [hl, hu]⟩
section
variable {c : Ct} {ρ : EnvT} {σ : Sg} {Q : DT → Sg → Prop} {E : TX} {e : Expr} {pos p : Pos} {fs : List (Str × DT)} {C D a : Addr} {oe : Obj} {d : Option Addr} {b : Bool} {x : DT}
/-- isinstance of it -/
theorem pf_isH {y : DT} {cv : Value} (hc : c.hp = some (a, oe)) (he : HotE (a, oe) C d) (Z : ExcC c.K C) (hy : (y = .ref D ∧ cv = .ref D) ∨ ∃ n, y = .ty n ∧ cv = .type n) (q : PySem.W.kitOne c.K (.ref C) cv = some b) : POF c (.builtin "isinstance") [.hot a d fs, y] σ (.bl b) := ⟨fun X hX H K w vs ra Q k => by
  have hX' := hX
  cases hX' with
  | mk _ k' Wx fl hpp hrH hcf hh hp' ht hf hN hU hst =>
  have hc : hpp = some (a, oe) := hc
  obtain ⟨v, u2, rfl, rv, ru⟩ := repA_two ra
  intro pins s st us I rr
  obtain ⟨x1, x2, rfl, r1, r2⟩ := vals2 rr
  obtain ⟨rfl, ea, _⟩ := hot_inst Z (hh _ hc) he w I rv
  cases r1
  have e2 : x2 = cv := by
    rcases hy with ⟨e, e'⟩ | ⟨n, e, e'⟩
    · subst e e'
      cases ru
      exact r2
    · subst e e'
      cases ru
      exact r2
  subst e2
  exact PySem.W.kia_one (PySem.W.kitx_e Z) I.kIn ea q (fun z => nomatch z) fun tk => ⟨.bl b, K, I.tok tk, rfl, k _ H K Gw.refl w (.bl b)⟩⟩
/-- e.f of it -/
theorem te_hfld {n : Str} (hc : c.hp = some (a, oe)) (he : HotE (a, oe) C d) (Z : ExcC c.K C) (hno : PySem.W.findIn c.K (.ref C) n = some none) (h : TE c e ρ σ (fun y σ1 => ∃ fs x, y = .hot a d fs ∧ fs.lookup n = some x ∧ Q x σ1) E)
    (hb : ∀ env, attributeBase e n env (eval e env) = eval e env := by intro _; rfl) : TE c (.Attribute e n pos) ρ σ Q E := ⟨fun X hX st H K w r xc Q' f => fun pins s I => by
  have hX' := hX
  cases hX' with
  | mk _ k' Wx fl hpp hrH hcf hh hp' ht hf hN hU hst =>
  have hc : hpp = some (a, oe) := hc
  refine attr_of (hb _) ?_
  refine thn (h.run X hX st H K w r xc (fun v K1 => ∃ fs x σ1 H1, Gw H σ K H1 σ1 K1 ∧ Wd X.K H1 σ1 K1 ∧ Rep X.K H1 v (.hot a d fs) ∧ fs.lookup n = some x ∧ Q x σ1) (fun v d' σ1 H1 K1 s w1 rv ⟨fs, x, e1, e2, q⟩ => by subst e1; exact ⟨fs, x, σ1, H1, s, w1, rv, e2, q⟩) pins s I) fun u s1 ⟨v, K1, I1, r1, fs, x, σ1, H1, s2, w1, rv, e2, q⟩ => ?_
  obtain ⟨rfl, _, fl⟩ := hot_inst Z (hh _ hc) he w1 I1 rv
  obtain ⟨y, z, od, ry, rz, J, hl⟩ := fl n x e2
  cases r1
  exact HandSPX.exc_get I1.kIn J Z.hg Z.hk Z.hs (PySem.W.findObj_own Z.hd hno rfl hl) (handed_of rz) ⟨y, K1, I1.tok _, rz, f y x σ1 H1 K1 s2 w1 ry q⟩⟩
theorem tv_hfld {n : Str} (hc : c.hp = some (a, oe)) (he : HotE (a, oe) C d) (Z : ExcC c.K C) (hno : PySem.W.findIn c.K (.ref C) n = some none) (ha : TV c e ρ σ (.hot a d fs)) (hl : fs.lookup n = some x) (hb : ∀ env, attributeBase e n env (eval e env) = eval e env := by intro _; rfl) : TV c (.Attribute e n pos) ρ σ x := ⟨fun q => te_hfld hc he Z hno (ha.to ⟨fs, x, rfl, hl, q⟩) hb⟩
end
/-! ### raise -/
section
variable {c : Ct} {ρ : EnvT} {σ : Sg} {D : EndT} {e : Expr} {pos pos3 p p2 : Pos} {C : Addr} {x : Str}
theorem ts_raise1 [Calm c] {m : Str} {j : Nat} (q : PySem.W.excIn c.K C veB "ValueError.__new__" = true) (Z : PySem.W.ExcA c.K C) (kC : PySem.W.keepIn c.K (.ref C) = true) (hg : GlS c x) (hm : c.mg x = some (.ref C)) (h : D.ex (.ref C) none ρ σ) (hdb : (x == ("__debug__" : Str)) = false := by decide) :
    TS c (.Raise (some (.Call (.Name x p) [.Constant (.str m) j p2] [] pos)) none pos3) ρ σ D := ⟨fun X hX st H K w re D' f => by
  have hX' := hX
  cases hX' with
  | mk _ k' Wx fl hpp hrH hcf hh hp' ht hf hN hU hst =>
  obtain rfl : hpp = none := ‹Calm _›.h
  refine cS_of (L2N.ps_raise (hcf rfl).1 ht (L2N.pmk_own (bmB := veB) PySem.F.excBase_ValueError q hm kC (raises_own Z.hs Z.ty) hg hdb)) ?_
  exact f.ex _ none none ρ σ st H K Gw.refl w re .nil h⟩
/-- C(e), C's own __init__ keeps one field: as what is raised -/
theorem pmk_exN {X : Cx} {te : L2.TE} {fl : Str} {k : Nat} (T : ExcI X.prog X.w X.K X.mg X.base C fl k) (Z : PySem.W.ExcA X.K C) (hr : Room (k + 1) X.A) (hU : X.A.guards = some []) (hg : Gl X x) (hm : X.mg x = some (.ref C)) (he : PE X e te)
    (hs : starEach [e] X.env = (false, eval e X.env) :: starEach [] X.env) (hdb : (x == ("__debug__" : Str)) = false) : L2N.PMk X (.Call (.Name x p) [e] [] pos) (fun σ H Q => te σ H fun v H1 => ∀ d, H1 d = none → Q (.ref C) (some d) (upd H1 d (.xd [(fl, v)]))) := by
  intro pins s σ H Q I h
  obtain ⟨To, fI, fd, pn, iC, tI, hb, F1⟩ := T
  obtain ⟨nm, q, N, bs, bm, sn, sub, ab, col, dd, k0, k1, k2, k3, k5, hC, hbm⟩ := To.cls
  refine wpAny_Call_Name_kw (ld_glob I hg hm ?_ hdb)
  refine PySem.W.callWith_K (h₀ := X.base) I.ok.mod.kin To.kC ?_ hs (by rfl)
  rw [hs]
  show wpAny _ _ (spliced ((false, eval e X.env) :: backTo pos (starEach [] X.env))) _ _ s
  refine Calls.spliced_cons (thn (he.run pins s σ H _ I h) fun u s1 ⟨v, K1, I1, r1, q1⟩ => Calls.spliced_nil ⟨I1.kIn, ?_⟩)
  show wpAny _ _ (call (.ref C) [u]) _ _ _
  obtain ⟨hp, g, dr, tk, os⟩ := s1
  have nw : hp.objs.size ≤ hp.objs.size + 1 := Nat.le_succ _
  have hn : K1 (hp.objs.size + 1) = none := I1.hok.fresh nw
  have keep2 : ∀ b o, hp.get? b = some o → ((hp.push (PySem.W.kdv_tup [u])).push (PySem.HandSPX.excO C hp.objs.size)).get? b = some o := fun b o z => Heap.get?_push_of_some _ (Heap.get?_push_of_some _ z)
  have here : ((hp.push (PySem.W.kdv_tup [u])).push (PySem.HandSPX.excO C hp.objs.size)).get? (hp.objs.size + 1) = some (PySem.HandSPX.excO C hp.objs.size) := by heap_get
  have I2 := I1.laid (t' := tk) (a := hp.objs.size + 1) (o := exo (hp.objs.size + 1) C none) keep2 nw (exo_ok here)
  have bnd := hb _ [Value.ref (hp.objs.size + 1), u] I2.kIn (show ([Value.ref (hp.objs.size + 1), u] ++ ([] : List Value)).length = 2 from rfl)
  refine wpAny_call (PySem.HandSPX.call_own F.excBase_ValueError (fun Y => PySem.HandSPX.refsVE_contains Y bm hbm) (I1.kIn _ _ hC) (PySem.W.looks_findIn I1.kIn iC) (fun self => PySem.W.bind_fn I1.kIn self tI) (by rw [sizeLine_eq]; exact Nat.le_of_ble_eq_true rfl)
    (codeAny_mono (F1.calm _ (hr.make C [u] []) hU X.stack _ _ (I2.env0.make C [u] []) ⟨[Value.ref (hp.objs.size + 1), u], []⟩ [Value.ref (hp.objs.size + 1), u] [.ref (hp.objs.size + 1), v] (.cons rfl (.cons r1 .nil)) bnd
      (fun z K2 => z = .non ∧ ∃ dx, upd K1 (hp.objs.size + 1) (exo (hp.objs.size + 1) C none) dx = none ∧ dx ≠ hp.objs.size + 1 ∧ K2 = upd (upd (upd K1 (hp.objs.size + 1) (exo (hp.objs.size + 1) C none)) dx (exd dx [(fl, v)])) (hp.objs.size + 1) (exo (hp.objs.size + 1) C (some dx))) (fun _ _ _ => False)
      ⟨hp.objs.size + 1, v, rfl, upd_same, fun dx n ne => ⟨rfl, dx, n, ne, rfl⟩⟩) fun res s3 z => ?_))
  match res, z with
  | .error e, z =>
    obtain ⟨_, _, _, _, _, _, _, _, _, _, _, _, n⟩ := z
    exact n.elim
  | .ok (.ret u2), z =>
    obtain ⟨v2, K3, os2, bare2, un2, hok2, rv, e3, dx, n, ne, e4⟩ := z
    subst e3
    subst e4
    obtain ⟨h2, g2, d2, t2, os'⟩ := s3
    have nd : K1 dx = none := by rw [upd_ne ne] at n; exact n
    obtain ⟨t0, G, J, kG, ge, hoe, na⟩ := mk_end0 (d2 := d2) (t2 := t2) (d := dx) (fs := [(fl, v)]) I1 nw keep2 un2 hok2 os2 bare2 upd_same (by rw [upd_ne ne]; exact upd_same) nd
    have e5 : upd (L2.del (upd (upd (upd K1 (hp.objs.size + 1) (exo (hp.objs.size + 1) C none)) dx (exd dx [(fl, v)])) (hp.objs.size + 1) (exo (hp.objs.size + 1) C (some dx))) (hp.objs.size + 1)) dx (.xd [(fl, v)]) = upd K1 dx (.xd [(fl, v)]) := by
      funext b
      by_cases hd : b = dx
      · rw [hd, upd_same, upd_same]
      · rw [upd_ne hd, upd_ne hd]
        by_cases hb : b = hp.objs.size + 1
        · rw [hb, L2.del_same, hn]
        · rw [L2.del_ne hb, upd_ne hb, upd_ne hd, upd_ne hb]
    rw [e5] at J na
    exact ⟨rv, _, _, _, ⟨G, g2, d2, t2, os'⟩, _, .ref C, some dx, rfl, J, kG, ge, hoe, ⟨rfl, rfl, fun vs z => by cases z; rfl⟩, rfl, rfl, na, rfl, bare2, raises_own Z.hs Z.ty, q1 dx nd⟩
  | .ok .next, z => exact z.elim
  | .ok .brk, z => exact z.elim
  | .ok .cont, z => exact z.elim
theorem ts_raise2 [Calm c] {fl : Str} {k : Nat} (T : ExcI c.P c.w c.K c.mg c.base C fl k) (hk : k + 1 ≤ c.k) (Z : PySem.W.ExcA c.K C) (hg : GlS c x) (hm : c.mg x = some (.ref C)) (h : TE c e ρ σ (fun dd σ1 => D.ex (.ref C) (some [(fl, dd)]) ρ σ1) (xD D ρ))
    (hs : ∀ env, starEach [e] env = (false, eval e env) :: starEach [] env := by intro _; rfl) (hdb : (x == ("__debug__" : Str)) = false := by decide) : TS c (.Raise (some (.Call (.Name x p) [e] [] pos)) none pos3) ρ σ D := ⟨fun X hX st H K w re D' f => by
  have hX' := hX
  cases hX' with
  | mk _ k' Wx fa hpp hrH hcf hh hp' ht hf hN hU hst =>
  obtain rfl : hpp = none := ‹Calm _›.h
  refine cS_of (L2N.ps_raise (hcf rfl).1 ht (pmk_exN T Z ((hcf rfl).2.mono hk) hU hg hm cE_pe (hs _) hdb)) ?_
  refine h.run X hX st H K w re (f.xc re) _ fun v dd σ1 H1 K1 g w1 rv q d nd => ?_
  obtain ⟨g2, w2⟩ := w1.new (o := .xd [(fl, v)]) nd
  exact f.ex _ (some d) (some [(fl, dd)]) ρ σ1 st _ _ (g.trans g2) w2 (re.same (g.trans g2).b) (.dict upd_same (.cons (rv.same g2.b) .nil)) q⟩
end
/-! ### try -/
abbrev Ct.suite (c : Ct) (p : Addr × Obj) : Ct := ⟨c.P, c.w, c.K, c.mg, c.base, c.N, c.sc, c.k, fun _ _ _ _ => False, c.fa, some p⟩
abbrev Ct.tr (c : Ct) (W : WX) : Ct := ⟨c.P, c.w, c.K, c.mg, c.base, c.N, c.sc, c.k, W, c.fa, c.hp⟩
theorem con_suite {c : Ct} [Calm c] {X : Cx} (hX : Con c X) {a : Addr} {oe : Obj} {cls : Value} {d : Option Addr} {pn : List (Addr × Obj)} (z : L2N.Zn cls d oe) (hd : ∃ vs, oe.data = .fields vs) : Con (c.suite (a, oe)) (X.suite a ((a, oe) :: pn)) := by
  cases hX with
  | mk _ k' Wx fa hpp hrH hcf hh hp' ht hf hN hU hst =>
  exact Con.mk (X.suite a ((a, oe) :: pn)) k' _ fa (some (a, oe)) ⟨hrH.dp, hrH.un⟩ (fun z => nomatch z) (fun q e => by cases e; exact ⟨⟨rfl, let ⟨vs, h⟩ := hd; ⟨vs, h, z.2.2 vs h⟩⟩, List.mem_cons_self⟩) PassesOwn.never takesN0 hf hN hU hst
theorem con_tr {c : Ct} [Calm c] {X : Cx} (hX : Con c X) {W : WX} {pn : List (Addr × Obj)} {xe : Value → Shared → Prop} (tk : L2N.Takes (X.tr pn xe) W) (po : PassesOwn (model X.prog X.w) X.A X.env xe) : Con (c.tr W) (X.tr pn xe) := by
  cases hX with
  | mk _ k' Wx fa hpp hrH hcf hh hp' ht hf hN hU hst =>
  obtain rfl : hpp = none := ‹Calm _›.h
  exact Con.mk (X.tr pn xe) k' W fa none hrH hcf (fun _ z => nomatch z) po tk hf hN hU hst
abbrev ClY := Value × Nat × List Stmt
inductive HdY (c : Ct) : List ExceptHandler → List ClY → Prop
  | nil : HdY c [] []
  | cons {x n : Str} {cv : Value} {i : Nat} {b₀ : Stmt} {suite : List Stmt} {np pos' : Pos} {hds : List ExceptHandler} {l : List ClY} (hi : c.N[i]? = some n) (hln : c.sc.names.lookup n = some .local) (hg : GlS c x) (hdb : (x == ("__debug__" : Str)) = false) (hm : c.mg x = some cv) (r : HdY c hds l) :
      HdY c (.ExceptHandler (some (.Name x np)) (some n) (b₀ :: suite) pos' :: hds) ((cv, i, b₀ :: suite) :: l)
/-- what the clauses wish -/
def exY (c : Ct) (D : EndT) : List ClY → Value → Option (List (Str × DT)) → EnvT → Sg → Prop
  | [] => D.ex
  | (cv, i, su) :: r => fun cls x ρ σ => ∃ b, PySem.W.exmOne c.K cls cv = some b ∧
      (b = true → ∀ a oe d, oe.cls = cls → oe.dict = d → TBk (c.suite (a, oe)) su (ρ.set i (some (.hot a d (x.getD [])))) σ { nx := fun ρ' σ' => D.nx (ρ'.set i none) σ', rt := D.rt, bk := fun ρ' σ' => D.bk (ρ'.set i none) σ', ct := fun ρ' σ' => D.ct (ρ'.set i none) σ' }) ∧ (b = false → exY c D r cls x ρ σ)
def tsY (X : Cx) (su : List Stmt) : Addr → Value → Option Addr → L2.TS := fun a cls d D st K => ∀ oe pn, L2N.Zn cls d oe → (∃ vs, oe.data = .fields vs) → cB (X.suite a ((a, oe) :: pn)) su D st K
def tbY (X : Cx) (body : List Stmt) (W : WX) : L2.TS := fun D st K => ∀ pn xe, L2N.Takes (X.tr pn xe) W → PassesOwn (model X.prog X.w) X.A X.env xe → (∀ p ∈ X.pn, p ∈ pn) → cB (X.tr pn xe) body D st K
theorem xrep_hot {F : PySem.W.Frag} {H : Hp} {a : Addr} {d : Option Addr} {x : Option (List (Str × DT))} (r : XRep F H d x) : Rep F H (.ref a) (.hot a d (x.getD [])) := by
  cases r with
  | nil => exact .hot0 a
  | dict e rf => exact .hot1 e rf
section
variable {c : Ct} {ρ : EnvT} {σ : Sg} {D : EndT}
theorem hdn_of {X : Cx} {fa : Bool} (hX : Con c X) : ∀ {hds : List ExceptHandler} {l : List ClY}, HdY c hds l → HdN X hds (l.map fun q => (q.1, q.2.1, tsY X q.2.2))
  | _, _, .nil => .nil
  | _, _, .cons hi hln hg hdb hm r => by
    have ih := hdn_of (fa := fa) hX r
    cases hX
    exact .cons hi hln ⟨hg, hdb, .inl hm⟩ (fun a oe cls d pn z hd => ⟨fun pins s σ H D I h => h oe pn z hd pins s I⟩) ih
theorem ts_try [Calm c] {body : List Stmt} {h₀ : ExceptHandler} {hds : List ExceptHandler} {l : List ClY} {pos : Pos} (hfa : c.fa = true) (hh : HdY c (h₀ :: hds) l) (h : ∀ W, TBk (c.tr W) body ρ σ { D with ex := exY c D l }) : TS c (.Try body (h₀ :: hds) [] [] pos) ρ σ D := ⟨fun X hX st H K w re D' f => by
  have hn := hdn_of (fa := true) hX hh
  have hs : X.stack = X.env :: X.outer ∧ X.env.frame = some X.env.locals ∧ X.ex = [] := by
    cases hX with
    | mk _ k' Wx fa hpp hrH hcf hh' hp' ht hf hN hU hst => exact hst hfa
  have hN : X.N.Nodup := by cases hX; assumption
  have tk : L2N.Takes X c.Wx := by cases hX; assumption
  refine cS_of (ps_tryN (tb := tbY X body) hs.1 hs.2.1 hN tk (fun W pn xe t po hp => ⟨fun pins s σ H D I z => z pn xe t po hp pins s I⟩) hn) ?_
  intro pn xe t po hp
  refine (h _).run (X.tr pn xe) (con_tr hX t po) st H K w re D' ⟨f.nx, f.rt, f.bk, f.ct, fun cls dA x ρ' σ' st' H' K' g w' re' xr q => ?_⟩
  have go : ∀ l : List ClY, exY c D l cls x ρ' σ' → wNamed X.K c.Wx D' (l.map fun q => (q.1, q.2.1, tsY X q.2.2)) cls dA st' K' := by
    intro l
    induction l with
    | nil => exact fun q => f.ex cls dA x ρ' σ' st' H' K' g w' re' xr q
    | cons cl r ih =>
      obtain ⟨cv, i, su⟩ := cl
      rintro ⟨b, e, h1, h2⟩
      refine ⟨b, by cases hX; exact e, fun hb a na oe pn2 z hd => ?_, fun hb => ih (h2 hb)⟩
      refine (h1 hb a oe dA z.1 z.2.1).run _ (con_suite hX z hd) _ H' K' w' (re'.set (xrep_hot xr) i) _ ⟨fun ρ2 σ2 st2 H2 K2 g2 w2 re2 q2 => f.nx _ _ _ H2 K2 (g.trans g2) w2 (re2.unset i) q2, fun v d2 σ2 H2 K2 g2 w2 rv q2 => f.rt _ _ _ H2 K2 (g.trans g2) w2 rv q2, fun ρ2 σ2 st2 H2 K2 g2 w2 re2 q2 => f.bk _ _ _ H2 K2 (g.trans g2) w2 (re2.unset i) q2, fun ρ2 σ2 st2 H2 K2 g2 w2 re2 q2 => f.ct _ _ _ H2 K2 (g.trans g2) w2 (re2.unset i) q2, fun _ _ _ _ _ _ _ _ _ _ _ _ q2 => q2.elim⟩
  exact go l q⟩
end
end Y

/-! Yb: + - * of an instance and any other value. -/
namespace PySem.W
open PySem PySem.Calls PyProof.Rows Builtin
section
variable {prog : Program} {w : World} {A : Around} {E : Value → Shared → Prop} {s : Shared} {K : Frag} {x C L f : Addr} {h₀ : Heap} {m : Str → Option Value} {ox : Obj} {od : Option Obj}
/-- the left slot is the class's own def -/
theorem slot_own {M : Model} {h : Heap} {nm : String} (X : K.In h) (hs : findIn K (.ref C) (PySem.dunder nm) = some (some (.ref f))) (hr : findIn K (.ref C) (dunderR nm) = some none) : Looks M h (numberSlotInPython (.ref C) nm) true := by
  intro A Q E s k q
  unfold numberSlotInPython
  refine wpAny_bind (looks_findIn X hs A _ E s k ?_)
  refine wpAny_bind (m := calledByName _ _ _) (wpAny_pure ?_)
  refine wpAny_bind (looks_findIn X hr A _ E s k ?_)
  refine wpAny_bind (m := calledByName _ _ _) (wpAny_pure ?_)
  rw [if_pos (by rfl)]
  exact wpAny_pure q
theorem binop1_KT {nm : String} {b : Value} {T : String} {b0 : Bool} {Q : Option Value → Shared → Prop} (X : K.In s.heap) (I : InstAt s.heap x ox C od) (hb : Looks (model prog w) s.heap (typeOf b) (.type T)) (hc : selfFirst K C = true)
    (hs : findIn K (.ref C) (PySem.dunder nm) = some (some (.ref f))) (hr : findIn K (.ref C) (dunderR nm) = some none) (ft : fillsNumberSlot (.type T) nm = pure b0)
    (fi : b0 = true → subIn K (.type T) (.ref C) = some false ∧ ∃ t, typeLookup (.type T) (dunderR nm) = pure t)
    (fin : wpAny (model prog w) A (tryMethod (.ref x) (PySem.dunder nm) b) (fun r s' => ∃ v, r = some v ∧ Q (some v) s') E s) : wpAny (model prog w) A (binaryOp1 nm (.ref x) b) Q E s := by
  obtain ⟨cd, hcd, hm⟩ := any_some hc
  obtain ⟨rest, hm⟩ : ∃ rest, cd.mro = .ref C :: rest := by
    cases q : cd.mro with
    | nil => rw [q] at hm; cases hm
    | cons a r => rw [q] at hm; exact ⟨r, by rw [List.head?_cons] at hm; cases (beq_iff_eq.mp hm); rfl⟩
  unfold binaryOp1
  refine wpAny_bind (I.type.here (wpAny_bind (hb.here (wpAny_bind ((fills_K X hcd hm hs).here ?_)))))
  rw [show ((Value.ref C == Value.type T) = false) from rfl]
  simp only [Bool.false_eq_true, if_false, ft]
  refine wpAny_bind (wpAny_pure ?_)
  cases b0 with
  | false =>
    simp only [Bool.and_false, Bool.false_eq_true, if_false, Bool.false_and, if_true]
    refine wpAny_bind (wpAny_pure ?_)
    simp only [Bool.false_eq_true, if_false]
    exact wpAny_bind (wpAny_mono fin (fun r s' ⟨v, e, q⟩ => by subst e; exact wpAny_pure q) fun _ _ z => z)
  | true =>
    obtain ⟨h1, t, h2⟩ := fi rfl
    simp only [Bool.and_true, Bool.true_and, if_true]
    refine wpAny_bind ((looks_subIn X h1).here ?_)
    simp only [Bool.false_eq_true, if_false, Bool.not_false, if_true, Bool.and_self, Bool.and_true, Bool.true_and]
    refine wpAny_bind ((slot_own X hs hr).here ?_)
    simp only [if_true]
    refine wpAny_bind (m := numberSlotInPython _ _) (wpAny_pure ?_)
    simp only [Bool.not_false, if_true]
    rw [h2]
    refine wpAny_bind (wpAny_pure ?_)
    exact wpAny_bind (wpAny_mono fin (fun r s' ⟨v, e, q⟩ => by subst e; exact wpAny_pure q) fun _ _ z => z)
theorem binop_KT {op : Operator} {b : Value} {T : String} {b0 : Bool} {Q : Value → Shared → Prop} (X : K.In s.heap) (I : InstAt s.heap x ox C od) (hb : Looks (model prog w) s.heap (typeOf b) (.type T)) (hc : selfFirst K C = true)
    (hs : findIn K (.ref C) (PySem.dunder op.info.2) = some (some (.ref f))) (hf : isFn K (.ref f) = true) (hr : findIn K (.ref C) (dunderR op.info.2) = some none) (ft : fillsNumberSlot (.type T) op.info.2 = pure b0)
    (fi : b0 = true → subIn K (.type T) (.ref C) = some false ∧ ∃ t, typeLookup (.type T) (dunderR op.info.2) = pure t)
    (h : wpAny (model prog w) A (call (.ref f) [.ref x, b]) (CmpBack Q) E s) : wpAny (model prog w) A (binaryOp op (.ref x) b) Q E s := by
  unfold binaryOp
  refine wpAny_holding (wpAny_bind (binop1_KT (Q := fun r s' => ∃ v, r = some v ∧ Q v s') X I hb hc hs hr ft fi ?_ |> fun z => wpAny_mono z (fun r s' ⟨v, e, q⟩ => by subst e; exact wpAny_pure q) fun _ _ z => z))
  unfold tryMethod
  refine wpAny_bind (special_fn X I hs (beq_iff_eq.mp hf) (wpAny_mono h (fun v s' hv => ?_) fun _ _ e => e))
  cases v <;> first | exact hv.elim | exact wpAny_pure ⟨_, rfl, _, rfl, hv⟩
end
end PySem.W
namespace Y
open PySem PySem.Spec PyProof.Rows L2 SX Z
def tys : List String := ["NoneType", "bool", "int", "str", "list", "tuple", "dict"]
theorem tyT_mem {σ : Sg} {y : DT} {T : String} (h : tyT σ y = some T) : T ∈ tys := by
  unfold tys
  cases y <;> (try (cases h; done)) <;> (try (cases h; simp; done))
  rename_i p
  unfold tyT at h
  cases e : σ p with
  | none => simp [e] at h
  | some cc => cases cc <;> simp [e] at h <;> subst h <;> simp
/-- what is asked of the class, for + - * -/
structure OpC (K : PySem.W.Frag) (C : Addr) (r : Str) : Prop where
  sf : PySem.W.selfFirst K C = true
  sub : ∀ T ∈ tys, PySem.W.subIn K (.type T) (.ref C) = some false
  r : PySem.W.findIn K (.ref C) r = some none
/-- a right side of a built-in type, or of the class -/
def RtT (nm : String) (T : String) : Prop := ∃ b0, fillsNumberSlot (.type T) nm = pure b0 ∧ (b0 = true → ∃ t, typeLookup (.type T) (dunderR nm) = pure t)
def RtO (σ : Sg) (C : Addr) (y : DT) : Prop := (∃ gs, y = .obj C gs) ∨ ∃ T, tyT σ y = some T
theorem rt_add : ∀ T ∈ tys, RtT "add" T := by
  intro T hT
  simp only [tys, List.mem_cons, List.not_mem_nil, or_false] at hT
  rcases hT with rfl | rfl | rfl | rfl | rfl | rfl | rfl
  · exact ⟨false, by kernel_rfl, fun z => nomatch z⟩
  · exact ⟨true, by kernel_rfl, fun _ => ⟨some (.builtin "int.__radd__"), by kernel_rfl⟩⟩
  · exact ⟨true, by kernel_rfl, fun _ => ⟨some (.builtin "int.__radd__"), by kernel_rfl⟩⟩
  · exact ⟨false, by kernel_rfl, fun z => nomatch z⟩
  · exact ⟨false, by kernel_rfl, fun z => nomatch z⟩
  · exact ⟨false, by kernel_rfl, fun z => nomatch z⟩
  · exact ⟨false, by kernel_rfl, fun z => nomatch z⟩
theorem rt_sub : ∀ T ∈ tys, RtT "sub" T := by
  intro T hT
  simp only [tys, List.mem_cons, List.not_mem_nil, or_false] at hT
  rcases hT with rfl | rfl | rfl | rfl | rfl | rfl | rfl
  · exact ⟨false, by kernel_rfl, fun z => nomatch z⟩
  · exact ⟨true, by kernel_rfl, fun _ => ⟨some (.builtin "int.__rsub__"), by kernel_rfl⟩⟩
  · exact ⟨true, by kernel_rfl, fun _ => ⟨some (.builtin "int.__rsub__"), by kernel_rfl⟩⟩
  · exact ⟨false, by kernel_rfl, fun z => nomatch z⟩
  · exact ⟨false, by kernel_rfl, fun z => nomatch z⟩
  · exact ⟨false, by kernel_rfl, fun z => nomatch z⟩
  · exact ⟨false, by kernel_rfl, fun z => nomatch z⟩
theorem rt_mul : ∀ T ∈ tys, RtT "mul" T := by
  intro T hT
  simp only [tys, List.mem_cons, List.not_mem_nil, or_false] at hT
  rcases hT with rfl | rfl | rfl | rfl | rfl | rfl | rfl
  · exact ⟨false, by kernel_rfl, fun z => nomatch z⟩
  · exact ⟨true, by kernel_rfl, fun _ => ⟨some (.builtin "int.__rmul__"), by kernel_rfl⟩⟩
  · exact ⟨true, by kernel_rfl, fun _ => ⟨some (.builtin "int.__rmul__"), by kernel_rfl⟩⟩
  · exact ⟨false, by kernel_rfl, fun z => nomatch z⟩
  · exact ⟨false, by kernel_rfl, fun z => nomatch z⟩
  · exact ⟨false, by kernel_rfl, fun z => nomatch z⟩
  · exact ⟨false, by kernel_rfl, fun z => nomatch z⟩
theorem noNI {v : V} {u : Value} {Q : Value → Shared → Prop} {s : Shared} (r : RelV v u) (q : Q u s) : PySem.W.CmpBack Q u s := by
  cases v <;> first | (cases r; exact q) | (obtain ⟨_, e⟩ := r; cases e; exact q)
section
variable {c : Ct} {ρ : EnvT} {σ : Sg} {Q : DT → Sg → Prop} {E : TX} {a b : Expr} {pos : Pos} {C : Addr} {k : Nat} {ps : List Str} {spec : TSpec} {m : Str}
theorem te_binO [Calm c] {op : Operator} {r : Str} (mt : DtM c.P c.w c.K c.mg c.base C m ps k spec) (hk : k ≤ c.k) (oc : OpC c.K C r) (hm : PySem.dunder op.info.2 = m) (hr : dunderR op.info.2 = r) (rt : ∀ T ∈ tys, RtT op.info.2 T)
    (h : TE c a ρ σ (fun x σ1 => TE c b ρ σ1 (fun y σ2 => ∃ fs, x = .obj C fs ∧ RtO σ2 C y ∧ spec [.obj C fs, y] σ2 Q E) E) E) : TE c (.BinOp a op b pos) ρ σ Q E := ⟨fun X hX st H K w re xc Q' fo => by
  obtain ⟨f, fd, hmt, hb, Fn⟩ := mt
  have hX' := hX
  cases hX' with
  | mk _ k' Wx fl hpp hrH hcf hh hp' ht hf hN hU hst =>
  obtain rfl : hpp = none := ‹Calm _›.h
  obtain ⟨hcc, hro⟩ := hcf rfl
  intro pins s I0
  refine wpAny_BinOp (binT (R := fun x y K2 => ∃ fs yd σ2 H2, Gw H σ K H2 σ2 K2 ∧ Wd X.K H2 σ2 K2 ∧ Rep X.K H2 x (.obj C fs) ∧ Rep X.K H2 y yd ∧ RtO σ2 C yd ∧ spec [.obj C fs, yd] σ2 Q E) cE_pe cE_pe I0 (h.run X hX st H K w re xc _ fun v x σ1 H1 K1 s1 w1 r1 h1 =>
    h1.run X hX st H1 K1 w1 (re.same s1.b) (xc.next s1) _ fun u y σ2 H2 K2 s2 w2 r2 ⟨fs, ex, ry, q⟩ => by subst ex; exact ⟨fs, y, σ2, H2, s1.trans s2, w2, Rep.same s2.b r1, r2, ry, q⟩) fun vv uu s v u K2 I q1 q2 ⟨fs, y, σ2, H2, g, w2, r1', r2, ry, q⟩ => ?_)
  have rv' := r1'
  cases rv' with
  | @obj ad _ dx vs _ ea ed rf =>
  cases q1
  obtain ⟨mA, O, _, _, _, _⟩ := ins_get I.hok (w2.le _ _ ea)
  obtain ⟨od, J, _⟩ := O.look
  obtain ⟨m0, fr⟩ := I.fr
  subst hm hr
  have go : wpAny (model X.prog X.w) X.A (call (.ref f) [.ref ad, uu]) (EP X pins st Q') X.xe s :=
    runG (us := [.ref ad, uu]) (vs := [.ref ad, u]) Fn (hro.mono hk) hU ht hb I (.cons rfl (.cons q2 .nil)) ⟨[.obj C fs, y], H2, σ2, Q, E, w2, .cons r1' (.cons r2 .nil), q, fun v d σ' H' K' s' => fo v d σ' H' K' (g.trans s'), fun cls dA x σ' H' K' s' => xc cls dA x σ' H' K' (g.trans s')⟩
  have go2 := wpAny_mono go (fun z s3 (y : EP X pins st Q' z s3) => let ⟨v3, K3, I3, r3, q3⟩ := y; (noNI r3 y : PySem.W.CmpBack (EP X pins st Q') z s3)) fun _ _ z => z
  rcases ry with ⟨gs, rfl⟩ | ⟨T, hT⟩
  · cases r2 with
    | @obj ad2 _ dx2 vs2 _ ea2 ed2 rf2 =>
      cases q2
      obtain ⟨mA2, O2, _, _, _, _⟩ := ins_get I.hok (w2.le _ _ ea2)
      obtain ⟨od2, J2, _⟩ := O2.look
      exact PySem.W.binop_K fr I.ok.mod.kin J J2.type oc.sf hmt.at_ hmt.fn go2
  · obtain ⟨P, KX, hP, _⟩ := kit_of I q2 (tyT_x w2 r2 hT)
    have mem := tyT_mem hT
    obtain ⟨b0, f1, f2⟩ := rt T mem
    exact PySem.W.binop_KT I.kIn J (KX.ty _ _ I.kIn hP) oc.sf hmt.at_ hmt.fn oc.r f1 (fun e => ⟨oc.sub T mem, f2 e⟩) go2⟩
end
end Y

/-! Yp: three names at once; operators as values; == of a tree and itself. -/
namespace Y
open PySem PySem.Spec PyProof.Rows L2 SX Z
theorem sw_three {a b d : Expr} {x y z : Str} {px py pz pt p2 : Pos} {kt k2 : Nat} {env : Env} (hb : env.blockKind = .function) (hx : env.kindOf x = some .local) (hy : env.kindOf y = some .local) (hz : env.kindOf z = some .local) (hl : (py.line == px.line) = true) (hl2 : (pz.line == px.line) = true) (hn : (x == y) = false) (hn2 : (x == z) = false) (hn3 : (y == z) = false)
    (hs : ([a, b, d].any fun | .Starred .. => true | _ => false) = false) (hf : [a, b, d].all (foldedForSure 8) = false) (hc : [a, b, d].all (constantsAlone 8) = false) :
    swappedStores [.Tuple [.Name x px, .Name y py, .Name z pz] kt pt] (.Tuple [a, b, d] k2 p2) env = pure (some [x, y, z]) := by
  have hl' : (px.line == px.line) = true := beq_self_eq_true _
  have sy : ∀ {u v : Str}, (u == v) = false → (v == u) = false := fun {u v} h => by
    rw [beq_eq_false_iff_ne] at h ⊢
    exact fun z => h z.symm
  have m1 := sy hn
  have m2 := sy hn2
  have m3 := sy hn3
  unfold swappedStores
  simp only [hb, hs, hf, hc, Expr.pos, List.head?_cons, Option.map_some, Option.getD_some, List.filterMap_cons, List.filterMap_nil, hx, hy, hz, hl, hl2, hl', beq_self_eq_true, Bool.and_self, Bool.and_true, if_true, List.length_cons, List.length_nil]
  simp [List.eraseDups, List.eraseDupsBy, List.eraseDupsBy.loop, m1, m2, m3]
  simp only [List.any_cons, List.any_nil, Bool.or_false, Bool.or_eq_false_iff] at hs
  rintro (z | z | z)
  · exact absurd (z.symm.trans hs.1) (by decide)
  · exact absurd (z.symm.trans hs.2.1) (by decide)
  · exact absurd (z.symm.trans hs.2.2) (by decide)
section
variable {c : Ct} {ρ : EnvT} {σ : Sg} {D : EndT} {a b e3 : Expr} {pos : Pos} {x y z : Str}
theorem ts_par3 [Calm c] {i j l : Nat} {px py pz pt p2 : Pos} {kt k2 : Nat} (hi : c.N[i]? = some x) (hj : c.N[j]? = some y) (hl : c.N[l]? = some z) (hij : i ≠ j) (hil : i ≠ l) (hjl : j ≠ l) (hx : c.sc.names.lookup x = some .local) (hy : c.sc.names.lookup y = some .local) (hz : c.sc.names.lookup z = some .local)
    (h : TA c [a, b, e3] ρ σ (fun ds σ1 => ∃ u v w, ds = [u, v, w] ∧ D.nx (((ρ.set i (some u)).set j (some v)).set l (some w)) σ1) (xD D ρ))
    (hw : ∀ env : Env, env.blockKind = .function → env.kindOf x = some .local → env.kindOf y = some .local → env.kindOf z = some .local → swappedStores [.Tuple [.Name x px, .Name y py, .Name z pz] kt pt] (.Tuple [a, b, e3] k2 p2) env = pure (some [x, y, z])) :
    TS c (.Assign [.Tuple [.Name x px, .Name y py, .Name z pz] kt pt] (.Tuple [a, b, e3] k2 p2) pos) ρ σ D := ⟨fun X hX st H K w re D' f => by
  have hX' := hX
  cases hX' with
  | mk _ k' Wx fa hpp hrH hcf hh hp' ht hf hN hU hst =>
    obtain rfl : hpp = none := ‹Calm _›.h
    obtain ⟨hc, hr⟩ := hcf rfl
    intro pins s I
    have hk : X.env.blockKind = .function := by
      have z : X.env.scope.kind = .function := I.ok.kind
      unfold Env.blockKind
      rw [z]
      rfl
    refine cS_of (L2.ps_par3 hc hN hi hj hl hij hil hjl hx hy hz cA_pa (hw _ hk hx hy hz)) ?_ pins s I
    refine h.run X hX st H K w re (f.xc re) _ fun vs ds σ1 H1 K1 g1 w1 r1 ⟨u, v, ww, e1, q⟩ => ?_
    subst e1
    cases r1 with
    | cons ra t1 =>
      cases t1 with
      | cons rb t2 =>
        cases t2 with
        | cons rc t3 =>
          cases t3
          exact ⟨_, _, _, rfl, f.nx _ _ _ H1 K1 g1 w1 ((((re.same g1.b).set ra i).set rb j).set rc l) q⟩⟩
end
section
variable {c : Ct} {ρ : EnvT} {σ : Sg} {a b : Expr} {pos : Pos} {C : Addr} {k : Nat} {ps : List Str} {spec : TSpec} {m : Str} {d y : DT} {fs : List (Str × DT)}
theorem tv_binO [Calm c] {op : Operator} {r : Str} (mt : DtM c.P c.w c.K c.mg c.base C m ps k spec) (hk : k ≤ c.k) (oc : OpC c.K C r) (hm : PySem.dunder op.info.2 = m) (hr : dunderR op.info.2 = r) (rt : ∀ T ∈ tys, RtT op.info.2 T)
    (ha : TV c a ρ σ (.obj C fs)) (hb : TV c b ρ σ y) (ry : RtO σ C y) (hs : ∀ {Q : DT → Sg → Prop} {E : TX}, Q d σ → spec [.obj C fs, y] σ Q E) : TV c (.BinOp a op b pos) ρ σ d := ⟨fun q => te_binO mt hk oc hm hr rt (ha.to (hb.to ⟨fs, rfl, ry, hs q⟩))⟩
end
section
variable {c : Ct} {ρ : EnvT} {σ : Sg} {tg iter kx vx ifx : Expr} {scope : Scope} {pos : Pos} {own : List (Str × Nat)} {t : TgS}
/-- {k: v for .. if ..}, the keys distinct -/
theorem tv_dcF [Calm c] {α : Type} {l : List α} {g vf : α → DT} {kf : α → DK} {tt : α → Bool} {ρ' : α → EnvT} (htg : TgOk (c.blk scope) tg t) (hb : blkC c.N c.sc scope own = true) (hsub : ∀ j ∈ t.slots, j ∈ own.map (·.2)) (hi : TVI c tg iter ρ σ (l.map g)) (hn : l.length ≤ 1000000)
    (hst : ∀ a ∈ l, stT t (g a) (wipeT ρ (own.map (·.2))) = some (ρ' a)) (hs : ∀ a ∈ l, TB (c.blk scope) ifx (ρ' a) σ (tt a) ∧ (tt a = true → TV (c.blk scope) kx (ρ' a) σ (dk (kf a)) ∧ TV (c.blk scope) vx (ρ' a) σ (vf a))) (hnd : (l.map kf).Nodup) (hf : ∀ env x, foldedSetIterable iter env x = pure x := by intro _ _; rfl) :
    TV c (.DictComp kx vx [⟨tg, iter, [ifx], 0⟩] scope pos) ρ σ (.dct ((l.filter tt).map fun a => (kf a, vf a))) := ⟨fun {Q E} q => te_frz (te_dcC htg hb hsub (hi.to ⟨by rw [List.length_map]; exact hn, fun i acc σ2 => σ2 = σ ∧ acc = ((l.take i).filter tt).map fun a => (kf a, vf a), ⟨rfl, by simp⟩, fun i d acc σ2 hd ⟨e1, e2⟩ => by
    subst e1 e2
    rw [List.getElem?_map] at hd
    obtain ⟨a, ha, rfl⟩ := Option.map_eq_some_iff.mp hd
    have hm : a ∈ l := List.mem_of_getElem? ha
    have hlt : i < l.length := (List.getElem?_eq_some_iff.mp ha).1
    have tk : l.take (i + 1) = l.take i ++ [a] := by rw [List.take_succ, ha]; rfl
    refine ⟨ρ' a, hst a hm, ?_⟩
    have hnk : kf a ∉ (((l.take i).filter tt).map fun a => (kf a, vf a)).map (·.1) := by
      rw [List.map_map]
      intro hk
      have hk : kf a ∈ (l.take i).map kf := by
        obtain ⟨b, hb, e⟩ := List.mem_map.mp hk
        exact List.mem_map.mpr ⟨b, (List.mem_filter.mp hb).1, e⟩
      have q1 : (l.map kf)[i]? = some (kf a) := by rw [List.getElem?_map, ha]; rfl
      obtain ⟨j, hj⟩ := List.mem_iff_getElem?.mp hk
      rw [List.getElem?_map, List.getElem?_take] at hj
      split at hj
      · next hji =>
        have q2 : (l.map kf)[j]? = some (kf a) := by rw [List.getElem?_map]; exact hj
        have := (List.getElem?_inj (by rw [List.length_map]; omega) hnd).mp (q2.trans q1.symm)
        omega
      · cases hj
    show TT _ _ _ _ _ _
    refine (hs a hm).1.to ⟨fun b => ((hs a hm).2 b).1.to ⟨kf a, rfl, ((hs a hm).2 b).2.to ⟨rfl, ?_⟩⟩, fun b => ⟨rfl, ?_⟩⟩
    · rw [putT_new hnk, tk, List.filter_append, List.map_append, List.filter_cons, if_pos b]; rfl
    · rw [tk, List.filter_append, List.map_append, List.filter_cons, if_neg (by rw [b]; decide)]; simp, fun D acc σ2 hD _ ⟨e1, e2⟩ => by
    subst e1 e2
    refine ⟨D, _, rfl, su_same, ?_⟩
    rw [sd_su hD, List.take_of_length_le (by rw [List.length_map]; exact Nat.le_refl _)]
    exact q⟩) hf)⟩
end
theorem log2_lt' {n k : Nat} (h : n < 2 ^ k) (hk : 0 < k) : n.log2 < k := by
  by_cases z : n = 0
  · rw [z]; exact hk
  · exact (Nat.log2_lt z).mpr h
theorem cmul_small {i j : Int} (h1 : i.natAbs < 2 ^ 100) (h2 : j.natAbs < 2 ^ 100) : CMulW i j := by
  unfold CMulW
  have a := log2_lt' h1 (by decide)
  have b := log2_lt' h2 (by decide)
  omega
end Y

set_option autoImplicit false
/-! min of a list of texts -/
namespace Y
open PySem PySem.Spec L2 SX Z
def rMinS (K : PySem.W.Frag) : List V → Hp → VK → Prop := fun vs H Q => ∃ (a : Addr) (x : Str) (xs : List Str), vs = [V.ref a] ∧ SqL K H a ((x :: xs).map V.str) ∧ Q (.str (PySem.W.minOf x xs)) H
theorem hold_vals {h : Heap} : ∀ {xs : List Str} {us : List Value}, Vals (xs.map V.str) us → PySem.W.HoldAll h us xs
  | [], _, r => by
    cases r
    exact .nil
  | x :: xs, _, r => by
    cases r with
    | cons r rs =>
      obtain ⟨t, rfl⟩ := r
      exact .cons (PySem.W.holds_str x t) (hold_vals rs)
theorem cr_minS {X : Cx} (hc : X.calm = true) (hu : X.A.units + 64 < cLine) : CallR X (.builtin "min") (rMinS X.K) := by
  intro pins s σ H vs us Q I r h
  obtain ⟨a, x, xs, rfl, hs, q⟩ := h
  obtain ⟨its, rv, hl, _⟩ := I.list hs
  rw [Vals.ref1 r]
  refine PySem.W.min_list_datum (α := Str) (x := x) (xs := xs) (I.ok.hd hc) hl.isList (hold_vals rv) (by show X.A.units + 1 + 0 < cLine; omega) fun i v h' tk hi hv hk => ?_
  obtain ⟨t, rfl⟩ : ∃ t, v = .str (PySem.W.minOf x xs) t := by
    obtain ⟨as, r⟩ := hv
    cases r
    exact ⟨_, rfl⟩
  exact ⟨.str _, H, I.kept hk, ⟨_, rfl⟩, q⟩
def minT (k : List Nat) (l : List (List Nat)) : List Nat := l.foldl (fun a y => if y < a then y else a) k
theorem minT_S (k : List Nat) (l : List (List Nat)) : PySem.W.minOf (S k) (l.map S) = S (minT k l) := by
  unfold PySem.W.minOf minT
  induction l generalizing k with
  | nil => rfl
  | cons y l ih =>
    rw [List.map_cons, List.foldl_cons, List.foldl_cons, ← ih]
    congr 1
    show (if decide ((S y).cps.toList < (S k).cps.toList) = true then S y else S k) = _
    rw [S_codes, S_codes]
    by_cases h : y < k
    · rw [decide_eq_true h, if_pos rfl, if_pos h]
    · rw [decide_eq_false h, if_neg (by decide), if_neg h]
theorem minT_mem (k : List Nat) (l : List (List Nat)) : minT k l ∈ k :: l := by
  unfold minT
  induction l generalizing k with
  | nil => exact List.mem_cons_self
  | cons y l ih =>
    rw [List.foldl_cons]
    have := ih (if y < k then y else k)
    rcases List.mem_cons.mp this with e | e
    · rw [e]
      split <;> simp
    · simp [e]
theorem minT_le (k : List Nat) (l : List (List Nat)) : ∀ y ∈ k :: l, minT k l ≤ y := by
  unfold minT
  induction l generalizing k with
  | nil =>
    intro y hy
    rw [List.mem_singleton.mp hy]
    exact List.le_refl _
  | cons z l ih =>
    intro y hy
    rw [List.foldl_cons]
    have h := ih (if z < k then z else k)
    have hm := h _ List.mem_cons_self
    rcases List.mem_cons.mp hy with e | hy
    · subst e
      refine List.le_trans hm ?_
      split
      · next q => exact List.le_of_lt q
      · exact List.le_refl _
    · rcases List.mem_cons.mp hy with e | hy
      · subst e
        refine List.le_trans hm ?_
        split
        · exact List.le_refl _
        · next q => exact List.not_lt.mp q
      · exact h y (List.mem_cons_of_mem _ hy)
theorem pf_minT {c : Ct} {σ : Sg} [Calm c] {x : DT} {k : List Nat} {l : List (List Nat)} (hx : LsT σ x ((k :: l).map DT.str)) : POF c (.builtin "min") [x] σ (.str (minT k l)) := ⟨fun X hX H K w vs r Q q => by
  cases hX with
  | mk _ k' Wx fa hpp hrH hcf hh hp' htk hf' hN hU hst =>
    obtain rfl : hpp = none := ‹Calm _›.h
    obtain ⟨hc, hr⟩ := hcf rfl
    obtain ⟨u, rfl, ru⟩ := repA_one r
    obtain ⟨a, ws, rfl, q1, r1⟩ := hx.now w ru
    rw [repA_strs r1] at q1
    have e1 : ((k :: l).map fun z => V.str (S z)) = (S k :: l.map S).map V.str := by rw [List.map_cons, List.map_cons, List.map_map]; rfl
    rw [e1] at q1
    refine cF_of (cr_minS hc (hunits hrH)) ⟨a, S k, l.map S, rfl, q1, ?_⟩
    rw [minT_S]
    exact q _ H K Gw.refl w (.str _)⟩
end Y

set_option autoImplicit false
/-! list slices with a step -/
namespace Y
open PySem PySem.Spec PyProof.Rows L2 SX Z
def ixS (n : Nat) (lo : Option Int) (st : Int) : List Nat := sliceRange (sliceBounds lo none (some st) n).1 (sliceBounds lo none (some st) n).2.1 (sliceBounds lo none (some st) n).2.2
def pickA {α : Type} (xs : List α) (lo : Option Int) (st : Int) : List α := (ixS xs.length lo st).filterMap (xs[·]?)
theorem vals_pick {vs : List V} {its : List Value} (r : Vals vs its) : ∀ l : List Nat, Vals (l.filterMap (vs[·]?)) (l.filterMap (its[·]?))
  | [] => .nil
  | i :: l => by
    have t := vals_pick r l
    rw [List.filterMap_cons, List.filterMap_cons]
    cases e : vs[i]? with
    | none =>
      have : its[i]? = none := by
        rw [List.getElem?_eq_none_iff] at e ⊢
        rw [← r.length]
        exact e
      rw [this]
      exact t
    | some v =>
      obtain ⟨u, hu, ru⟩ := r.get e
      rw [hu]
      exact .cons ru t
theorem repA_pick {F : PySem.W.Frag} {H : Hp} {vs : List V} {ds : List DT} (r : RepA F H vs ds) : ∀ l : List Nat, RepA F H (l.filterMap (vs[·]?)) (l.filterMap (ds[·]?))
  | [] => .nil
  | i :: l => by
    have t := repA_pick r l
    rw [List.filterMap_cons, List.filterMap_cons]
    cases e : ds[i]? with
    | none =>
      have : vs[i]? = none := by
        rw [List.getElem?_eq_none_iff] at e ⊢
        rw [r.length]
        exact e
      rw [this]
      exact t
    | some d =>
      obtain ⟨u, hu, ru⟩ := r.get e
      rw [hu]
      exact .cons ru t
theorem pick_len {α : Type} (xs : List α) (lo : Option Int) (st : Int) : (pickA xs lo st).length ≤ xs.length := by
  have := slicePick_size_le (xs.map fun _ => Value.none).toArray lo none (some st)
  unfold slicePick at this
  rw [List.size_toArray, List.size_toArray, List.length_map] at this
  unfold pickA ixS
  refine Nat.le_trans (Nat.le_of_eq ?_) this
  generalize sliceRange _ _ _ = l
  induction l with
  | nil => rfl
  | cons i l ih =>
    rw [List.filterMap_cons, List.filterMap_cons]
    cases e : xs[i]? with
    | none => simp [e, ih]
    | some v => simp [e, ih]
section
variable {c : Ct} {ρ : EnvT} {σ : Sg} {Q : DT → Sg → Prop} {E : TX} {e : Expr} {pos p3 : Pos} {lo st : Option Expr} {l : Option Int} {z : Int} {xs : List DT} {x : DT}
def PrtOf (e : Option Expr) (l : Option Int) : Prop := ∀ X : Cx, ∃ tl, PO X e tl ∧ ∀ st H (Q : Option Int → Hp → Prop), Q l H → tl st H Q
theorem prt_none : PrtOf none none := fun X => ⟨_, po_none, fun _ _ _ q => q⟩
theorem prt_int {i : Int} {k : Nat} {p : Pos} : PrtOf (some (.Constant (.int i) k p)) (some i) := fun X => ⟨_, po_some pe_int, fun _ _ _ q => ⟨i, rfl, q⟩⟩
theorem te_stepL (hl0 : PrtOf lo l) (hs0 : PrtOf st (some z)) (hz0 : z ≠ 0) (h : TE c e ρ σ (fun d σ1 => ∃ xs, LsT σ1 d xs ∧ Q (.lst (pickA xs l z)) σ1) E) (hsb : ∀ v u, subscripted (.Slice lo none st p3) false v u = operate [v, u] (getItem v u) := by intro _ _; with_unfolding_all rfl) : TE c (.Subscript e (.Slice lo none st p3) pos) ρ σ Q E := ⟨fun X hX st0 H K w r xc Q' f => fun pins s I => by
  obtain ⟨tl, pl0, hl1⟩ := hl0 X
  obtain ⟨ts, ps0, hs1⟩ := hs0 X
  refine PyProof.Rows.Subscript_ (thn (h.run X hX st0 H K w r xc (fun v K1 => ∃ xs d σ1 H1, LsT σ1 d xs ∧ Rep c.K H1 v d ∧ Gw H σ K H1 σ1 K1 ∧ Wd c.K H1 σ1 K1 ∧ Q (.lst (pickA xs l z)) σ1) (fun v d σ1 H1 K1 g w1 rv ⟨xs, e1, q⟩ => ⟨xs, d, σ1, H1, e1, rv, g, w1, q⟩) pins s I) fun v s1 ⟨x, H1, I1, r1, xs, d, σ1, Hh, ex, rv, g, w1, q⟩ => ?_)
  obtain ⟨a, vs, rfl, q1, ra⟩ := ex.now w1 rv
  cases r1
  refine wpAny_Slice (thn (pl0.run pins s1 st0 H1 (fun o H2 => o = l ∧ H2 = H1) I1 (hl1 _ _ _ ⟨rfl, rfl⟩)) fun vl s2 ⟨o1, H2, I2, pl, el, e2⟩ => ?_)
  subst el e2
  refine thn (po_none.run pins s2 st0 H2 (fun o H3 => o = none ∧ H3 = H2) I2 ⟨rfl, rfl⟩) fun vu s3 ⟨u, H3, I3, pu, eu, e3⟩ => ?_
  subst eu e3
  refine thn (ps0.run pins s3 st0 H3 (fun o H4 => o = some z ∧ H4 = H3) I3 (hs1 _ _ _ ⟨rfl, rfl⟩)) fun vs' s4 ⟨o, H4, I4, ps, eo, e4⟩ => ?_
  subst eo e4
  have I5 : Inv X pins st0 H4 { s4 with heap := s4.heap.push { cls := .type "slice", data := .fields #[vl, vu, vs'] } } := I4.kept (t' := s4.toks) fun b ob q => Heap.get?_push_of_some _ q
  show wpAny (model X.prog X.w) X.A (subscriptTail e (.Slice lo none st p3) (.ref a) (.ref s4.heap.objs.size)) (EP X pins st0 Q') X.xe { s4 with heap := s4.heap.push { cls := .type "slice", data := .fields #[vl, vu, vs'] } }
  have hX' := hX
  cases hX' with
  | mk _ k' Wx fa hpp hrH hcf hh hp' ht hf hN hU hst' =>
  obtain ⟨its, rv2, hl, hz⟩ := I5.list q1
  have hlen := rv2.length
  refine PyProof.Rows.tail_any (ops := [.ref a, .ref s4.heap.objs.size]) hl.isList.typeIs (slot_list_getitem.lookup) ?_ (hsb _ _)
  refine wpAny_getItem_list_slice hl.isList ⟨_, Heap.get?_push_size _ rfl, rfl, rfl⟩ pl pu ps (fun e => hz0 (Option.some.inj e)) ?_ (by rw [List.size_toArray] <;> omega)
  have e1 : slicePick its.toArray o1 none (some z) = (pickA its o1 z).toArray := by
    unfold slicePick pickA ixS
    rw [List.size_toArray]
    congr 1
    congr 1
    funext i
    exact List.getElem?_toArray
  rw [e1]
  have hp := I5.hok.fresh (Nat.le_refl _)
  obtain ⟨g2, w2⟩ := w1.new (o := .lst (pickA vs o1 z)) hp
  have rr : RepA X.K Hh (pickA vs o1 z) (pickA xs o1 z) := by unfold pickA; rw [ra.length]; exact repA_pick ra _
  exact ⟨.ref _, _, I5.laid (t' := s4.toks) (o := .lst (pickA vs o1 z)) (fun b ob q => Heap.get?_push_of_some _ q) (Nat.le_refl _) ⟨Nat.le_trans (pick_len vs o1 z) hz, _, 0, by unfold pickA; rw [hlen]; exact vals_pick rv2 _, Heap.get?_push_size _ rfl⟩, rfl, f _ _ σ1 _ _ (g.trans g2) w2 (.lst upd_same (rr.same g2.b)) q⟩⟩
theorem tv_stepL (hl0 : PrtOf lo l) (hs0 : PrtOf st (some z)) (hz0 : z ≠ 0) (h : TV c e ρ σ x) (hx : LsT σ x xs) (hsb : ∀ v u, subscripted (.Slice lo none st p3) false v u = operate [v, u] (getItem v u) := by intro _ _; with_unfolding_all rfl) : TV c (.Subscript e (.Slice lo none st p3) pos) ρ σ (.lst (pickA xs l z)) := ⟨fun q => te_stepL hl0 hs0 hz0 (h.to ⟨xs, hx, q⟩) hsb⟩
end
end Y

set_option autoImplicit false
/-! list.pop(i); list(d) as a cell -/
namespace Y
open PySem PySem.Spec PyProof.Rows L2 SX Z
theorem RepA.eraseIdx {F : PySem.W.Frag} {H : Hp} : ∀ {vs : List V} {ds : List DT}, RepA F H vs ds → ∀ k : Nat, RepA F H (vs.eraseIdx k) (ds.eraseIdx k)
  | _, _, .nil, _ => .nil
  | _, _, .cons _ t, 0 => t
  | _, _, .cons h t, k + 1 => .cons h (RepA.eraseIdx t k)
section
variable {c : Ct} {ρ : EnvT} {σ : Sg} {P : DT → Sg → Prop} {p : Addr} {xs : List DT} {d : DT}
theorem tm_popAt {i : Int} (h : σ p = some (.lst xs)) (h0 : 0 ≤ i) (h1 : i < 2 ^ 62) (hd : xs[i.toNat]? = some d) (q : P d (su σ p (.lst (xs.eraseIdx i.toNat)))) : TOM c "list.pop" (.ref p) [.int i] σ P := ⟨fun X hX H K w v vs rv ra Q' fo => by
  cases rv
  obtain ⟨iv, rfl, ri⟩ := repA_one ra
  cases ri
  obtain ⟨us, e, r1⟩ := w.on p _ h
  obtain ⟨u, hu, ru⟩ := r1.get hd
  have hlt := (List.getElem?_eq_some_iff.mp hu).1
  refine cM_of mt_popAt ⟨p, us, i, i.toNat, u, rfl, rfl, e, by omega, by omega, ?_, hu, ?_⟩
  · have hn : (if i < 0 then i + (us.length : Int) else i) = i := if_neg (by omega)
    unfold seqIndex?
    simp only [hn]
    have : (decide (0 ≤ i) && decide (i < (us.length : Int))) = true := by rw [Bool.and_eq_true]; exact ⟨decide_eq_true h0, decide_eq_true (by omega)⟩
    rw [if_pos this]
  · exact fo _ _ _ H _ (Gw.write h) (w.write h (c' := .lst (xs.eraseIdx i.toNat)) ⟨_, upd_same, r1.eraseIdx _⟩) ru q⟩
end
section
variable {c : Ct} {ρ : EnvT} {σ : Sg} {Q : DT → Sg → Prop} {E : TX} {a : Expr} {p pos : Pos}
theorem te_listDC [Calm c] (hg : GlS c "list") (hm : c.mg "list" = none) (h : TE c a ρ σ (fun x σ1 => ∃ kvs, DiT σ1 x kvs ∧ ∀ q, σ1 q = none → Q (.ref q) (su σ1 q (.lst (kvs.map fun kv => dk kv.1)))) E)
    (he : ∀ env, starEach [a] env = (false, eval a env) :: starEach [] env := by intro _; rfl) (hpl : ∀ pos env, (backTo pos (starEach [] env)).any (·.1) = false := by intro _ _; rfl) : TE c (.Call (.Name "list" p) [a] [] pos) ρ σ Q E := ⟨fun X hX st H K w r xc Q' fo => by
  have hc := con_calm hX
  have hX' := hX
  cases hX'
  refine cE_of (pe_callTy (call_listD hc) hg hm (by exact bt_list) (cA_pa (e := [a])) (by decide) (by decide) (he _) (hpl _ _)) ?_
  refine (ta_cons (QA := fun ds σ1 => ∃ x kvs, ds = [x] ∧ DiT σ1 x kvs ∧ ∀ q, σ1 q = none → Q (.ref q) (su σ1 q (.lst (kvs.map fun kv => dk kv.1)))) (h.imp fun x σ1 ⟨kvs, h1, h2⟩ => ta_nil ⟨x, kvs, rfl, h1, h2⟩) he).run X hX st H K w r xc _ fun vs ds σ1 H1 K1 s1 w1 r1 ⟨x, kvs, ed, hx, q⟩ => ?_
  subst ed
  obtain ⟨u, rfl, ru⟩ := repA_one r1
  obtain ⟨p, ws, rfl, q1, ra⟩ := hx.now w1 ru
  refine ⟨p, ws, rfl, q1, fun z hz => ?_⟩
  exact fo _ _ _ H1 _ (s1.trans (Gw.newC hz)) ((w1.push (o := .lst (ws.map fun kv => kV kv.1)) hz).add (c := .lst (kvs.map fun kv => dk kv.1)) (none_of w1.le hz) ⟨_, upd_same, ra.keys⟩) (.ref z) (q z (w1.free hz))⟩
end
end Y

set_option autoImplicit false
/-! list(d.items()), raw -/
namespace YK
open PySem PySem.W PySem.Calls PyProof.Rows PyProof.V PySem.Spec DT
section
variable {prog : Program} {w : World} {A : Around} {E : Value → Shared → Prop} {s : Shared} {r d : Addr} {es : Array DictEntry} {ep : Nat}
theorem li_init {R : Result → Shared → Prop} (hh : A.handled = none) (hv : s.heap.IsItemsView r d) (hm : Raw s.heap d es ep) (S : Addr) (hSr : S ≠ r) (hSd : d ≠ S) (hS : s.heap.get? S = some { cls := .type "list", data := .seq #[] })
    (hR : ∀ h' tk acc c as, (∀ b o, b ≠ S → s.heap.get? b = some o → h'.get? b = some o) → h'.get? S = some { cls := .type "list", dict := none, data := .seq acc c, slots := #[] } → as.length = es.size → Made es s.heap.objs.size h' as → acc.toList = as.map Value.ref → R (.ok (.ret .none)) { s with heap := h', toks := tk }) (hn : es.size ≤ sizeLine) :
    wpAny (model prog w) A.in1 (Builtin.«list.__init__» ⟨[.ref S, .ref r], []⟩)
      (fun fin s' => match fin with | .done f => R (.ok f) s' | .again c' => c'.quiet = true ∧ codeAny (model prog w) A c' R s') (fun e s' => R (.error e) s') s := by
  show wpAny _ _ (do let old ← Builtin.List.listItems (.ref S); Builtin.List.listUpdate (.ref S) (fun _ => #[]); letGo old.toList.reverse; Builtin.List.listExtendWith (.ref S) (.ref r) .none) _ _ s
  refine wpAny_bind ?_
  unfold Builtin.List.listItems
  refine wpAny_bind (wpAny_seqItems hS rfl (wpAny_pure ?_))
  show wpAny _ _ (updateSeq S (fun _ => #[]) >>= fun _ => letGo (#[] : Array Value).toList.reverse >>= fun _ => Builtin.List.listExtendWith (.ref S) (.ref r) .none) _ _ s
  refine wpAny_bind (wpAny_updateSeq hS rfl ?_)
  have hS₂ := Heap.get?_update_self (Obj.mapSeq (fun _ => (#[] : Array Value))) hS rfl
  have oth : ∀ b o, b ≠ S → s.heap.get? b = some o → (s.heap.update S (Obj.mapSeq (fun _ => (#[] : Array Value)))).get? b = some o :=
    fun b o hb e => (Heap.get?_update_other _ _ (Ne.symm hb)).trans e
  refine wpAny_bind (wpAny_letGo ?_)
  refine extI (s := { s with heap := s.heap.update S (Obj.mapSeq (fun _ => (#[] : Array Value))) }) hh (let ⟨o, ho, x⟩ := hv; ⟨o, oth _ _ hSr.symm ho, x⟩) (hm.at' fun o e => oth d o hSd e) S hSr hSd .none _ hS₂ (fun h' tk acc c as hk hS' hl hG hacc => ?_) hn
  exact hR h' tk acc c as (fun b o hb e => hk b o hb (oth b o hb e)) hS' hl (hG.low (by rw [Heap.size_update]; exact Nat.le_refl _)) hacc
theorem li_call {Q : Value → Shared → Prop} (hh : A.handled = none) (hv : s.heap.IsItemsView r d) (hm : Raw s.heap d es ep) (hn : es.size ≤ sizeLine)
    (hQ : ∀ h' tk acc c as, (∀ b o, s.heap.get? b = some o → h'.get? b = some o) → h'.get? s.heap.objs.size = some { cls := .type "list", dict := none, data := .seq acc c, slots := #[] } → as.length = es.size → Made es s.heap.objs.size h' as → acc.toList = as.map Value.ref → Q (.ref s.heap.objs.size) { s with heap := h', toks := tk }) :
    wpAny (model prog w) A (call (.type "list") [.ref r]) Q E s := by
  refine callType_codes (Q₁ := fun obj s₁ => obj = .ref s.heap.objs.size ∧ s₁ = { s with heap := s.heap.push { cls := .type "list", data := .seq #[] } }) PySem.F.called_list (PySem.F.typeCall_list_1 _) PySem.F.entry_list_init
    (code_list_new _ ⟨rfl, rfl⟩) fun obj s₁ h₁ => ?_
  obtain ⟨rfl, rfl⟩ := h₁
  have hS : (s.heap.push { cls := .type "list", data := .seq #[] }).get? s.heap.objs.size = some { cls := .type "list", data := .seq #[] } := Heap.get?_push_size _ rfl
  have hr : r < s.heap.objs.size := let ⟨_, ho, _⟩ := hv; Heap.lt_size ho
  refine ⟨⟨_, hS, rfl⟩, PySem.F.args_list_init_2 _ _, li_init (A := A.in1) (s := { s with heap := s.heap.push { cls := .type "list", data := .seq #[] } }) hh (let ⟨o, ho, x⟩ := hv; ⟨o, Heap.get?_push_of_some _ ho, x⟩) (hm.push _) _ (Nat.ne_of_gt hr) (Nat.ne_of_lt hm.lt) hS (fun h' tk acc c as hk hS' hl hG hacc => ?_) hn⟩
  exact ⟨rfl, hQ h' tk acc c as (fun b o e => hk b o (Nat.ne_of_lt (Heap.lt_size e)) (Heap.get?_push_of_some _ e)) hS' hl (hG.low (by show s.heap.objs.size ≤ (s.heap.push _).objs.size; rw [Heap.size_push]; exact Nat.le_succ _)) hacc⟩
end
end YK

set_option autoImplicit false
/-! list(d.items()) -/
namespace Y
open PySem PySem.Spec PyProof.Rows L2 SX Z
open L2.DX (itemsO itemsO_ok)
def addAll (H : Hp) (L : List (Addr × List V)) : Hp := L.foldl (fun H p => upd H p.1 (.tup p.2)) H
theorem addAll_old : ∀ (L : List (Addr × List V)) (H : Hp) (b : Addr), b ∉ L.map (·.1) → addAll H L b = H b
  | [], _, _, _ => rfl
  | p :: L, H, b, h => by
    rw [List.map_cons, List.mem_cons, not_or] at h
    show addAll (upd H p.1 (.tup p.2)) L b = H b
    rw [addAll_old L _ b h.2, upd_ne h.1]
theorem addAll_inv {X : Cx} {pins : List (Addr × Obj)} {σ : L2.St} {H0 : Hp} {s : Shared} {h' : Heap} {tk : Nat} (I0 : L2.Inv X pins σ H0 s) : ∀ (L : List (Addr × List V)) (H1 : Hp), L2.Inv X pins σ H1 { s with heap := h', toks := tk } → (L.map (·.1)).Nodup →
    (∀ p ∈ L, s.heap.objs.size ≤ p.1 ∧ H1 p.1 = none ∧ ∀ H2, ObjOk X.prog X.w H2 h' p.1 (.tup p.2)) → L2.Inv X pins σ (addAll H1 L) { s with heap := h', toks := tk }
  | [], _, I1, _, _ => I1
  | p :: L, H1, I1, hn, h => by
    obtain ⟨hb, hnone, ok⟩ := h p List.mem_cons_self
    have I2 : L2.Inv X pins σ (upd H1 p.1 (.tup p.2)) { s with heap := h', toks := tk } := I1.take (h' := h') (t' := tk) (fun b ob _ e => e) (I0.fpOk hb hnone) (ok _)
    rw [List.map_cons, List.nodup_cons] at hn
    exact addAll_inv I0 L _ I2 hn.2 fun q hq => by
      obtain ⟨c1, c2, c3⟩ := h q (List.mem_cons_of_mem _ hq)
      exact ⟨c1, by show upd H1 p.1 (.tup p.2) q.1 = none; rw [upd_ne (fun e => hn.1 (by rw [← e]; exact List.mem_map.mpr ⟨q, hq, rfl⟩))]; exact c2, c3⟩
theorem addAll_wd {F : PySem.W.Frag} {σ : Sg} : ∀ (L : List (Addr × List V)) (H K : Hp), Wd F H σ K → (L.map (·.1)).Nodup → (∀ p ∈ L, K p.1 = none) → ∃ H', Gw H σ K H' σ (addAll K L) ∧ Wd F H' σ (addAll K L) ∧ ∀ p ∈ L, H' p.1 = some (.tup p.2)
  | [], H, K, w, _, _ => ⟨H, Gw.refl, w, fun _ h => nomatch h⟩
  | p :: L, H, K, w, hn, h => by
    rw [List.map_cons, List.nodup_cons] at hn
    obtain ⟨g, w2⟩ := w.new (o := .tup p.2) (h p List.mem_cons_self)
    obtain ⟨H', g2, w3, q⟩ := addAll_wd L _ _ w2 hn.2 fun q hq => by
      rw [upd_ne (fun e => hn.1 (by rw [← e]; exact List.mem_map.mpr ⟨q, hq, rfl⟩))]
      exact h q (List.mem_cons_of_mem _ hq)
    refine ⟨H', g.trans g2, w3, fun q' hq => ?_⟩
    rcases List.mem_cons.mp hq with rfl | hq
    · exact g2.b _ _ upd_same
    · exact q q' hq
def itemsL (as : List Addr) (kvs : List (Key × V)) : List (Addr × List V) := as.zip (kvs.map fun kv => [kV kv.1, kv.2])
def rItemsK : V → List V → Hp → VK → Prop := fun x xs H Q => ∃ (a : Addr) (kvs : List (Key × V)), x = .ref a ∧ xs = [] ∧ Rd H a (.dK kvs) ∧ ∀ p, H p = none → Q (.ref p) (upd H p (itemsO p a))
theorem mt_itemsK {X : Cx} : MtR X "dict.items" rItemsK := by
  intro pins s σ H x xs v us Q I rx rxs h
  obtain ⟨a, kvs, rfl, rfl, ha, q⟩ := h
  cases rx
  cases rxs
  obtain ⟨_, hsys, vs, rel, dof⟩ := dk_rd I.hok ha
  obtain ⟨o, es, ep, ho, ex, hdat, _⟩ := id dof
  refine _root_.DT.callItems (es := es) (ep := ep) hsys ⟨o, ho, ex, hdat⟩ ?_
  have hf : H s.heap.objs.size = none := I.hok.fresh (Nat.le_refl _)
  exact ⟨.ref s.heap.objs.size, upd H s.heap.objs.size (itemsO s.heap.objs.size a), I.laid (t' := s.toks) (fun b u e => Heap.get?_push_of_some _ e) (Nat.le_refl _) (itemsO_ok (Heap.get?_push_size _ rfl)), rfl, q _ hf⟩
def rListIt : List V → Hp → VK → Prop := fun vs H Q => ∃ (p a : Addr) (kvs : List (Key × V)), vs = [.ref p] ∧ H p = some (itemsO p a) ∧ Rd H a (.dK kvs) ∧
  ∀ (as : List Addr) (l : Addr), as.length = kvs.length → as.Nodup → (∀ b ∈ as, H b = none) → H l = none → l ∉ as → Q (.ref l) (upd (addAll H (itemsL as kvs)) l (.lst (as.map V.ref)))
theorem vals_refs : ∀ as : List Addr, Vals (as.map V.ref) (as.map Value.ref)
  | [] => .nil
  | _ :: as => .cons rfl (vals_refs as)
theorem cr_listItems {X : Cx} (hc : X.calm = true) : CallR X (.type "list") rListIt := by
  intro pins s σ H xs us Q I r h
  obtain ⟨p, a, kvs, rfl, hp, ha, q⟩ := h
  obtain rfl := Vals.ref1 r
  have view : s.heap.IsItemsView p a := (show ObjOk X.prog X.w H s.heap p (itemsO p a) from I.hok p _ hp).1
  obtain ⟨hsz, hsys, vs, rel, dof⟩ := dk_rd I.hok ha
  obtain ⟨o, es, ep, ho, ex, hdat, hko, hpr, hnd⟩ := id dof
  have l1 : kvs.length = vs.length := KV.length rel
  have l2 : es.size = vs.length := by
    have := hpr.length
    rw [Array.length_toList] at this
    exact this
  refine YK.li_call (es := es) (ep := ep) (I.ok.hd hc) view ⟨o, ho, ex, hdat⟩ (by omega) fun h' tk acc c as hk hl hlen hG hacc => ?_
  have nd : as.Nodup := List.Pairwise.imp (fun h => Nat.ne_of_lt h) hG.rise
  have fr : ∀ b ∈ as, H b = none := fun b hb => I.hok.fresh (Nat.le_of_lt (hG.above b hb))
  have fl : H s.heap.objs.size = none := I.hok.fresh (Nat.le_refl _)
  have nl : s.heap.objs.size ∉ as := fun hb => Nat.lt_irrefl _ (hG.above _ hb)
  have ek : (itemsL as kvs).map (·.1) = as := by
    unfold itemsL
    exact List.map_fst_zip (by rw [List.length_map]; omega)
  have I1 : L2.Inv X pins σ H { s with heap := h', toks := tk } := I.kept (t' := tk) hk
  have I2 := addAll_inv I (itemsL as kvs) H I1 (by rw [ek]; exact nd) fun z hz => by
    have hz1 : z.1 ∈ as := by rw [← ek]; exact List.mem_map.mpr ⟨z, hz, rfl⟩
    refine ⟨Nat.le_of_lt (hG.above _ hz1), fr _ hz1, fun H2 => ?_⟩
    obtain ⟨j, hj⟩ := List.mem_iff_getElem?.mp hz
    unfold itemsL at hj
    obtain ⟨j1, j2⟩ := List.getElem?_zip_eq_some.mp hj
    rw [List.getElem?_map] at j2
    obtain ⟨kv, hkv, ekv⟩ := Option.map_eq_some_iff.mp j2
    obtain ⟨e, he, hg⟩ := hG.pairs j z.1 j1
    have jl : j < vs.length := by have := (List.getElem?_eq_some_iff.mp hkv).1; omega
    obtain ⟨x, hx, rx⟩ := KV.at' rel (i := j) (k := (vs[j]'jl).1) (v := (vs[j]'jl).2) (List.getElem?_eq_getElem jl)
    have exk : kv = ((vs[j]'jl).1, x) := Option.some.inj (hkv.symm.trans hx)
    obtain ⟨k1, k2⟩ := hpr.get? (i := j) (e := e) (k := (vs[j]'jl).1) (v := (vs[j]'jl).2) (by rw [Array.getElem?_toList]; exact he) (List.getElem?_eq_getElem jl)
    rw [← ekv, exk]
    refine ⟨by rw [sizeLine_eq]; exact Nat.le_of_ble_eq_true rfl, [e.key, e.val], .cons ?_ (.cons (by rw [k2]; exact rx) .nil), ⟨_, hg, rfl, 0, rfl⟩⟩
    rcases keyIs_shape k1 with ⟨i, t, ek, ev⟩ | ⟨z, t, ek, ev⟩
    · rw [ek]; exact ⟨t, ev⟩
    · rw [ek]; exact ⟨t, ev⟩
  have I3 : L2.Inv X pins σ (upd (addAll H (itemsL as kvs)) s.heap.objs.size (.lst (as.map V.ref))) { s with heap := h', toks := tk } := I2.take (h' := h') (t' := tk) (fun b ob _ e => e) (I.fpOk (Nat.le_refl _) (by rw [addAll_old _ _ _ (by rw [ek]; exact nl)]; exact fl)) ⟨by rw [List.length_map]; omega, as.map Value.ref, c, vals_refs as, by rw [← hacc, Array.toArray_toList]; exact hl⟩
  exact ⟨.ref s.heap.objs.size, _, I3, rfl, q as _ (by omega) nd fr fl nl⟩
end Y

set_option autoImplicit false
/-! list(d.items()) over trees -/
namespace Y
open PySem PySem.Spec PyProof.Rows L2 SX Z
open L2.DX (itemsO itemsO_ok)
theorem repA_items {F : PySem.W.Frag} {H H4 : Hp} (sm : Same H H4) : ∀ (as : List Addr) (ws : List (Key × V)) (kvs : List (DK × DT)), as.length = ws.length → RepK F H ws kvs → (∀ p ∈ itemsL as ws, H4 p.1 = some (.tup p.2)) → RepA F H4 (as.map V.ref) (kvs.map fun kv => .tup [dk kv.1, kv.2]) := by
  intro as
  induction as with
  | nil =>
    intro ws kvs hl t h
    cases t with
    | nil => exact .nil
    | cons rv t => simp at hl
  | cons b as ih =>
    intro ws kvs hl t h
    cases t with
    | nil => simp at hl
    | cons rv t => exact .cons (.tup (SqT.of (h (b, _) List.mem_cons_self)) (.cons (rep_dk _) (.cons (Rep.same sm rv) .nil))) (ih _ _ (by simpa using hl) t fun p hp => h p (List.mem_cons_of_mem _ hp))
theorem pe_items {X : Cx} {o : Expr} {apos cpos : Pos} {to : L2.TE} (ho : PE X o to) (hbase : attributeBase o "items" X.env (eval o X.env) = eval o X.env) (hline : (apos.endLine == cpos.line) = true) :
    PE X (.Call (.Attribute o "items" apos) [] [] cpos) (fun σ H Q => to σ H fun x H1 => rItemsK x [] H1 Q) := by
  refine ⟨fun pins s σ H Q I h => ?_⟩
  refine wpAny_Call_method0_late hbase hline (thn (ho.run pins s σ H _ I h) fun v s1 ⟨x, H1, I1, r1, q1⟩ => ?_)
  obtain ⟨a, kvs, rfl, _, hr, q⟩ := id q1
  obtain ⟨_, _, _, _, ob, _, _, e, ex, _⟩ := hr.ok I1.hok
  have rr := r1
  cases r1
  exact ⟨"dict", "dict.items", F.plainAttrs_dict, F.slot_dict_items, rfl, ⟨ob, e, ex.1⟩, fun b eb => by cases eb; exact ⟨ob, e, ex.2.1⟩, Calls.callWith_builtin rfl (PySem.evalArgs_none (mt_itemsK pins s1 σ H1 (.ref a) [] _ [] Q I1 rr .nil q1))⟩
section
variable {c : Ct} {ρ : EnvT} {σ : Sg} {Q : DT → Sg → Prop} {E : TX} {o : Expr} {p pos apos mpos : Pos} {x : DT} {kvs : List (DK × DT)}
theorem te_listIt [Calm c] (hg : GlS c "list") (hm : c.mg "list" = none) (h : TE c o ρ σ (fun x σ1 => ∃ kvs, DiT σ1 x kvs ∧ Q (.lst (kvs.map fun kv => .tup [dk kv.1, kv.2])) σ1) E)
    (hbase : ∀ env, attributeBase o "items" env (eval o env) = eval o env := by intro _; rfl) (hline : (apos.endLine == mpos.line) = true := by rfl)
    (he : ∀ env, starEach [Expr.Call (.Attribute o "items" apos) [] [] mpos] env = (false, eval (Expr.Call (.Attribute o "items" apos) [] [] mpos) env) :: starEach [] env := by intro _; rfl) (hpl : ∀ pos env, (backTo pos (starEach [] env)).any (·.1) = false := by intro _ _; rfl) :
    TE c (.Call (.Name "list" p) [.Call (.Attribute o "items" apos) [] [] mpos] [] pos) ρ σ Q E := ⟨fun X hX st H K w r xc Q' fo => by
  have hc := con_calm hX
  have hX' := hX
  cases hX'
  refine cE_of (pe_callTy (cr_listItems hc) hg hm (by exact bt_list) (pa_cons (pe_items cE_pe (hbase _) hline) pa_nil (he _)) (by decide) (by decide) (he _) (hpl _ _)) ?_
  refine h.run X hX st H K w r xc _ fun v x σ1 H1 K1 s1 w1 r1 ⟨kvs, hx, q⟩ => ?_
  obtain ⟨a, ws, rfl, q1, ra⟩ := hx.now w1 r1
  refine ⟨a, ws, rfl, rfl, q1, fun v hv => ?_⟩
  obtain ⟨g2, w2⟩ := w1.new (o := itemsO v a) hv
  have q2 : Rd (upd K1 v (itemsO v a)) a (.dK ws) := by
    rcases q1 with e | ⟨o, e⟩
    · exact .inl (by rw [upd_ne (ne_of_none e hv)]; exact e)
    · exact .inr ⟨o, by rw [upd_ne (ne_of_none e hv)]; exact e⟩
  refine ⟨v, a, ws, rfl, upd_same, q2, fun as l hl nd fr fl nl => ?_⟩
  have ek : (itemsL as ws).map (·.1) = as := by
    unfold itemsL
    exact List.map_fst_zip (by rw [List.length_map]; omega)
  obtain ⟨H3, g3, w3, ht⟩ := addAll_wd (itemsL as ws) _ _ w2 (by rw [ek]; exact nd) (fun z hz => fr _ (by rw [← ek]; exact List.mem_map.mpr ⟨z, hz, rfl⟩))
  obtain ⟨g4, w4⟩ := w3.new (o := .lst (as.map V.ref)) (by rw [addAll_old _ _ _ (by rw [ek]; exact nl)]; exact fl)
  exact fo _ _ σ1 _ _ (((s1.trans g2).trans g3).trans g4) w4 (.lst upd_same ((repA_items (g2.trans g3).b as ws kvs hl ra ht).same g4.b)) q⟩
end
end Y

/-! Yn: == and != of an instance and a value of a built-in type, either way round. -/
namespace PySem.W
open PySem PySem.Calls PyProof.Rows Builtin
open _root_.PySem.AutoSeq1 (wpAny_loadPart')
section
variable {prog : Program} {w : World} {M : Model} {A : Around} {E : Value → Shared → Prop} {s : Shared} {K : Frag} {x C f : Addr} {ox : Obj} {od : Option Obj}
theorem wpAny_sub {t b : Value} {r : Bool} {Q : Bool → Shared → Prop} (X : K.In s.heap) (e : subIn K t b = some r) (q : Q r s) : wpAny M A (isSubtype t b) Q E s := (looks_subIn X e).here q
theorem rc_back {a : Value} {T ida : String} {Q : Value → Shared → Prop} (hu : A.units < cLine) (X : K.In s.heap) (I : InstAt s.heap x ox C od) (ha : s.TypeIs a T) (hsub : subIn K (.ref C) (.type T) = some false) (h1 : Slot T (cmpInfo .Eq).2.1 ida)
    (hc1 : ∀ Q' : Value → Shared → Prop, Q' .notImplemented s → wpAny (model prog w) A (call (.builtin ida) [a, .ref x]) Q' E s)
    (hs : findIn K (.ref C) "__eq__" = some (some (.ref f))) (hf : isFn K (.ref f) = true)
    (h : wpAny (model prog w) A (call (.ref f) [.ref x, a]) (CmpBack Q) E s) : wpAny (model prog w) A (richCompare .Eq a (.ref x)) Q E s := by
  rcases hi : cmpInfo CmpOp.Eq with ⟨sym, f', r⟩
  have hr : r = (cmpInfo CmpOp.Eq).2.2 := by rw [hi]
  rw [hi] at h1
  simp only [richCompare, hi, ha.oneThing_none]
  try with_reducible refine wpAny_holding ?_
  refine wpAny_bind (wpAny_cRoomFor_or (.inr hu) ?_)
  refine wpAny_bind (wpAny_typeOf ha (wpAny_bind (I.type.here ?_)))
  rw [show (Value.type T != Value.ref C) = true from rfl]
  simp only [if_true]
  refine wpAny_bind (wpAny_sub X hsub ?_)
  simp only [Bool.false_eq_true, if_false, Bool.not_false, if_true]
  refine wpAny_bind (m := tryCompare a _ _) (wpAny_tryCompare_declines ha h1 (hc1 _ ⟨rfl, ?_⟩))
  have one : wpAny (model prog w) A (tryCompare (.ref x) "__eq__" a) (fun r s' => ∃ v, r = some v ∧ Q v s') E s := by
    unfold tryCompare
    refine wpAny_bind (ifBound_K X I hs hf (wpAny_mono h (fun v s' hv => ?_) fun _ _ e => e))
    cases v <;> first | exact hv.elim | exact wpAny_pure ⟨_, rfl, hv⟩
  rw [hr]
  show wpAny _ _ (tryCompare (.ref x) "__eq__" a >>= _) _ _ _
  refine wpAny_bind (m := tryCompare _ _ _) (wpAny_mono one (fun r s' z => ?_) fun _ _ e => e)
  obtain ⟨v, rfl, hq⟩ := z
  exact wpAny_pure hq
end
theorem int_eq_inst (b : Int) (u : Tok) (l : Addr) (c : Value) (dd : Option Addr) : Meets (Builtin.«int.__eq__» ⟨[.int b u, .ref l], []⟩) (fun _ R s => s.heap.get? l = some { cls := c, dict := dd, data := .plain } ∧ R (.ok (.ret .notImplemented)) s) :=
  .of_wp fun prog w A R s h => by obtain ⟨hp, g, d, tk, os⟩ := s; obtain ⟨hl, h⟩ := h; wp_walk using wpAny_loadPart' hl, wpAny_load hl; exact ⟨_, rfl, h⟩
theorem bool_eq_inst (b : Bool) (l : Addr) (c : Value) (dd : Option Addr) : Meets (Builtin.«int.__eq__» ⟨[.bool b, .ref l], []⟩) (fun _ R s => s.heap.get? l = some { cls := c, dict := dd, data := .plain } ∧ R (.ok (.ret .notImplemented)) s) :=
  .of_wp fun prog w A R s h => by obtain ⟨hp, g, d, tk, os⟩ := s; obtain ⟨hl, h⟩ := h; wp_walk using wpAny_loadPart' hl, wpAny_load hl; exact ⟨_, rfl, h⟩
theorem str_eq_inst (b : Str) (u : Tok) (l : Addr) (c : Value) (dd : Option Addr) : Meets (Builtin.«str.__eq__» ⟨[.str b u, .ref l], []⟩) (fun _ R s => s.heap.get? l = some { cls := c, dict := dd, data := .plain } ∧ R (.ok (.ret .notImplemented)) s) :=
  .of_wp fun prog w A R s h => by obtain ⟨hp, g, d, tk, os⟩ := s; obtain ⟨hl, h⟩ := h; wp_walk using wpAny_loadPart' hl, wpAny_load hl; exact ⟨_, rfl, h⟩
section
variable {K : Frag} {C : Addr}
theorem list_eq_inst (e : subIn K (.ref C) (.type "list") = some false) (a b : Addr) (dd : Option Addr) : Meets (Builtin.«list.__eq__» ⟨[.ref a, .ref b], []⟩) (fun _ R s => K.In s.heap ∧ s.heap.get? b = some { cls := .ref C, dict := dd, data := .plain } ∧ R (.ok (.ret .notImplemented)) s) :=
  .of_wp fun prog w A R s h => by obtain ⟨hp, g, d, tk, os⟩ := s; obtain ⟨hk, hl, h⟩ := h; wp_walk using wpAny_loadPart' hl, wpAny_load hl, wpAny_sub hk e; exact ⟨_, rfl, h⟩
theorem tuple_eq_inst (e : subIn K (.ref C) (.type "tuple") = some false) (a b : Addr) (dd : Option Addr) : Meets (Builtin.«tuple.__eq__» ⟨[.ref a, .ref b], []⟩) (fun _ R s => K.In s.heap ∧ s.heap.get? b = some { cls := .ref C, dict := dd, data := .plain } ∧ R (.ok (.ret .notImplemented)) s) :=
  .of_wp fun prog w A R s h => by obtain ⟨hp, g, d, tk, os⟩ := s; obtain ⟨hk, hl, h⟩ := h; wp_walk using wpAny_loadPart' hl, wpAny_load hl, wpAny_sub hk e; exact ⟨_, rfl, h⟩
theorem dict_eq_inst (e : subIn K (.ref C) (.type "dict") = some false) (a b : Addr) (dd : Option Addr) : Meets (Builtin.«dict.__eq__» ⟨[.ref a, .ref b], []⟩) (fun _ R s => K.In s.heap ∧ s.heap.get? b = some { cls := .ref C, dict := dd, data := .plain } ∧ R (.ok (.ret .notImplemented)) s) :=
  .of_wp fun prog w A R s h => by obtain ⟨hp, g, d, tk, os⟩ := s; obtain ⟨hk, hl, h⟩ := h; wp_walk using wpAny_loadPart' hl, wpAny_load hl, wpAny_sub hk e; exact ⟨_, rfl, h⟩
end
end PySem.W
namespace Y
open PySem PySem.Spec PyProof.Rows L2 SX Z
/-- the class is below no built-in type -/
structure BkC (K : PySem.W.Frag) (C : Addr) : Prop where
  up : ∀ T ∈ tys, PySem.W.subIn K (.ref C) (.type T) = some false
  dn : ∀ T ∈ tys, PySem.W.subIn K (.type T) (.ref C) = some false
def bkB (F : PySem.W.Frag) (C : Addr) : Bool := tys.all fun T => PySem.W.subIn F (.ref C) (.type T) == some false && PySem.W.subIn F (.type T) (.ref C) == some false
theorem bkB_ok {F : PySem.W.Frag} {C : Addr} (h : bkB F C = true) : BkC F C := by
  unfold bkB at h
  have h := List.all_eq_true.mp h
  exact ⟨fun T hT => by have := h T hT; rw [Bool.and_eq_true] at this; exact beq_iff_eq.mp this.1, fun T hT => by have := h T hT; rw [Bool.and_eq_true] at this; exact beq_iff_eq.mp this.2⟩
/-- a tree of a built-in type -/
def bi : DT → Bool
  | .non => true | .bl _ => true | .int _ => true | .str _ => true | .lst _ => true | .tup _ => true | .dct _ => true
  | _ => false
section
variable {c : Ct} {σ : Sg} {y : DT} {C : Addr} {fs : List (Str × DT)} {k : Nat} {ps : List Str} {spec : TSpec} {b : Bool}
theorem bi_ty (h : bi y = true) : ∃ T, (∀ σ : Sg, tyT σ y = some T) ∧ T ∈ tys := by
  cases y <;> first | (cases h; done) | exact ⟨_, fun _ => rfl, by simp [tys]⟩
/-- instance == a value of a built-in type -/
theorem po_eqOV [Calm c] (mt : DtM c.P c.w c.K c.mg c.base C "__eq__" ps k spec) (hk : k ≤ c.k) (bk : BkC c.K C) (hy : bi y = true) (hs : ∀ {Q : DT → Sg → Prop} {E : TX}, Q (.bl b) σ → spec [.obj C fs, y] σ Q E) : PO2 c (compareOp .Eq) (.obj C fs) y σ (.bl b) := ⟨fun X hX H K w v u rv ru Q' q => by
  obtain ⟨f, fd, hm, hb, F⟩ := mt
  have hX' := hX
  cases hX' with
  | mk _ k' Wx fl hpp hrH hcf hh hp' ht hf hN hU hst =>
    obtain rfl : hpp = none := ‹Calm _›.h
    obtain ⟨hcc, hr⟩ := hcf rfl
    intro pins s st vv uu I r1 r2
    have rv' := rv
    cases rv' with
    | @obj ad _ dx vs _ ea ed rf =>
      cases r1
      obtain ⟨mA, O, _, _, _, _⟩ := ins_get I.hok (w.le _ _ ea)
      obtain ⟨od, J, _⟩ := O.look
      obtain ⟨m, fr⟩ := I.fr
      obtain ⟨T, hT, mem⟩ := bi_ty hy
      obtain ⟨P, KX, hP, _⟩ := kit_of I r2 (tyT_x w ru (hT σ))
      show wpAny (model X.prog X.w) X.A (richCompare .Eq (.ref ad) uu) (EP X pins st Q') X.xe s
      refine PySem.W.cmp_K (op := .Eq) (tb := .type T) (by have := hr.units; omega) fr I.ok.mod.kin J (KX.ty _ _ I.kIn hP) (by unfold PySem.W.notFirst; rw [bk.dn T mem]; rfl) hm.at_ hm.fn ?_
      refine wpAny_mono (runAt (Q := fun v K2 => v = .bl b ∧ Q' (.bl b) K2) (vs := [.ref ad, u]) F (hr.mono hk) hU rfl hb I (.cons rfl (.cons r2 .nil)) ⟨[.obj C fs, y], H, σ, fun d' σ' => d' = .bl b ∧ σ' = σ, TX0, w, .cons rv (.cons ru .nil), hs ⟨rfl, rfl⟩, fun v d σ' H' K' s w' r ⟨e1, e2⟩ => by subst e1 e2; cases r; exact ⟨rfl, q _ H' K' s w' (.bl _)⟩, fun _ _ _ _ _ _ _ _ _ z => z⟩) (fun r s2 z => ?_) fun _ _ z => z
      obtain ⟨v2, K3, I3, rz, ez, q3⟩ := z
      subst ez
      cases rz
      exact ⟨.bl b, K3, I3, rfl, q3⟩⟩
/-- a value of a built-in type == instance -/
theorem po_eqVO [Calm c] (mt : DtM c.P c.w c.K c.mg c.base C "__eq__" ps k spec) (hk : k ≤ c.k) (bk : BkC c.K C) (hy : bi y = true) (hs : ∀ {Q : DT → Sg → Prop} {E : TX}, Q (.bl b) σ → spec [.obj C fs, y] σ Q E) : PO2 c (compareOp .Eq) y (.obj C fs) σ (.bl b) := ⟨fun X hX H K w u v ru rv Q' q => by
  obtain ⟨f, fd, hm, hb, Fn⟩ := mt
  have hX' := hX
  cases hX' with
  | mk _ k' Wx fl hpp hrH hcf hh hp' ht hf hN hU hst =>
    obtain rfl : hpp = none := ‹Calm _›.h
    obtain ⟨hcc, hr⟩ := hcf rfl
    intro pins s st uu vv I r2 r1
    have rv' := rv
    cases rv' with
    | @obj ad _ dx vs _ ea ed rf =>
      cases r1
      obtain ⟨mA, O, _, _, _, _⟩ := ins_get I.hok (w.le _ _ ea)
      obtain ⟨od, J, _⟩ := O.look
      have kin := I.kIn
      have hu : X.A.units < cLine := by have := hr.units; omega
      have run : wpAny (model X.prog X.w) X.A (call (.ref f) [.ref ad, uu]) (PySem.W.CmpBack (EP X pins st Q')) X.xe s := by
        refine wpAny_mono (runAt (Q := fun v K2 => v = .bl b ∧ Q' (.bl b) K2) (vs := [.ref ad, u]) Fn (hr.mono hk) hU rfl hb I (.cons rfl (.cons r2 .nil)) ⟨[.obj C fs, y], H, σ, fun d' σ' => d' = .bl b ∧ σ' = σ, TX0, w, .cons rv (.cons ru .nil), hs ⟨rfl, rfl⟩, fun v d σ' H' K' s w' r ⟨e1, e2⟩ => by subst e1 e2; cases r; exact ⟨rfl, q _ H' K' s w' (.bl _)⟩, fun _ _ _ _ _ _ _ _ _ z => z⟩) (fun r s2 z => ?_) fun _ _ z => z
        obtain ⟨v2, K3, I3, rz, ez, q3⟩ := z
        subst ez
        cases rz
        exact ⟨.bl b, K3, I3, rfl, q3⟩
      show wpAny (model X.prog X.w) X.A (richCompare .Eq uu (.ref ad)) (EP X pins st Q') X.xe s
      have up := bk.up
      cases ru with
      | non =>
        cases r2
        exact PySem.W.rc_back hu kin J rfl (up "NoneType" (by simp [tys])) F.slot_NoneType_eq (fun _ hq => call_gives F.slot_NoneType_eq rfl F.entry_NoneType_eq (F.args_NoneType_eq_2 _ _) (SeqAt.NoneType___eq___none_ref_0 ad) hq) hm.at_ hm.fn run
      | bl b =>
        cases r2
        exact PySem.W.rc_back hu kin J rfl (up "bool" (by simp [tys])) F.slot_bool_eq (fun _ hq => call_meets F.slot_bool_eq rfl F.entry_int_eq (F.args_int_eq_2 _ _) (PySem.W.bool_eq_inst b ad _ _) ⟨J.1, hq⟩) hm.at_ hm.fn run
      | int i =>
        obtain ⟨t, e⟩ := (show ∃ t, uu = Value.int i t from r2)
        subst e
        exact PySem.W.rc_back hu kin J (typeIs_int s i t) (up "int" (by simp [tys])) F.slot_int_eq (fun _ hq => call_meets F.slot_int_eq (typeIs_int s i t) F.entry_int_eq (F.args_int_eq_2 _ _) (PySem.W.int_eq_inst i t ad _ _) ⟨J.1, hq⟩) hm.at_ hm.fn run
      | str z =>
        obtain ⟨t, e⟩ := (show ∃ t, uu = Value.str (S z) t from r2)
        subst e
        exact PySem.W.rc_back hu kin J (typeIs_str s (S z) t) (up "str" (by simp [tys])) F.slot_str_eq (fun _ hq => call_meets F.slot_str_eq (typeIs_str s (S z) t) F.entry_str_eq (F.args_str_eq_2 _ _) (PySem.W.str_eq_inst (S z) t ad _ _) ⟨J.1, hq⟩) hm.at_ hm.fn run
      | @lst a2 vs2 ds e2 r3 =>
        have tl := (ty_lst (x := .lst ds) lsT_l X hX H K w (.ref a2) (.lst e2 r3) pins st s uu I r2).1
        cases r2
        exact PySem.W.rc_back hu kin J tl (up "list" (by simp [tys])) F.slot_list_eq (fun _ hq => call_meets F.slot_list_eq tl F.entry_list_eq (F.args_list_eq_2 _ _) (PySem.W.list_eq_inst (up "list" (by simp [tys])) a2 ad _) ⟨kin, J.1, hq⟩) hm.at_ hm.fn run
      | @tup a2 vs2 ds e2 r3 =>
        obtain ⟨its, _, ⟨ob, eo, co⟩, _⟩ := I.tuple (same_sqt w.le e2)
        cases r2
        exact PySem.W.rc_back hu kin J ⟨ob, eo, co.1⟩ (up "tuple" (by simp [tys])) F.slot_tuple_eq (fun _ hq => call_meets F.slot_tuple_eq ⟨ob, eo, co.1⟩ F.entry_tuple_eq (F.args_tuple_eq_2 _ _) (PySem.W.tuple_eq_inst (up "tuple" (by simp [tys])) a2 ad _) ⟨kin, J.1, hq⟩) hm.at_ hm.fn run
      | @dct a2 ob kvs ds e2 r3 =>
        have tl := (ty_dct (x := .dct ds) diT_l X hX H K w (.ref a2) (.dct e2 r3) pins st s uu I r2).1
        cases r2
        exact PySem.W.rc_back hu kin J tl (up "dict" (by simp [tys])) F.slot_dict_eq (fun _ hq => call_meets F.slot_dict_eq tl F.entry_dict_eq (F.args_dict_eq_2 _ _) (PySem.W.dict_eq_inst (up "dict" (by simp [tys])) a2 ad _) ⟨kin, J.1, hq⟩) hm.at_ hm.fn run
      | _ => cases hy⟩
end
end Y
namespace PySem.W
open PySem PySem.Calls PyProof.Rows Builtin
section
variable {prog : Program} {w : World} {A : Around} {E : Value → Shared → Prop} {h : Heap} {g : Array GenState} {d : Drawn} {t : Nat} {os : OsState} {C x f : Addr} {b : Value} {B T : String} {bm : List Value} {K : Frag}
/-- != of an instance whose class has an == of its own, with any other value -/
theorem ne_entryV (X : h.OwnEqNoNe x C f B bm) (hu : A.units < cLine) {Q : Fin → Shared → Prop}
    (go : wpAny (model prog w) A (call (.ref f) [.ref x, b]) (fun v s' => ∃ r, v = .bool r ∧ Q (.done (.ret (.bool (!r)))) s') E ⟨h, g, d, t, os⟩) :
    wpAny (model prog w) A (Builtin.«object.__ne__» ⟨[.ref x, b], []⟩) Q E ⟨h, g, d, t, os⟩ := by
  unfold Builtin.«object.__ne__»
  repeat (first
    | with_reducible refine wpAny_cRoomFor_or (.inr hu) ?_
    | (refine wpAny_bind (m := callSpecialIfBound? (.ref x) (Str.ofString "__eq__") [b])
        (wpAny_callSpecialIfBound?_own X.ownEq (wpAny_mono go (fun r s' hr => by
          obtain ⟨b, rfl, hq⟩ := hr
          repeat (first | exact hq | exact wpAny_pure hq | exact wpAny_truthy_bool hq | (refine wpAny_bind (m := truthy (.bool _)) (wpAny_truthy_bool ?_)) | wp_step)) fun _ _ e => e)))
    | wp_step)
theorem ne_tryV (FB : CmpFacts B bm) (X : h.OwnEqNoNe x C f B bm) (hu : A.units + 1 < cLine) {Q : Option Value → Shared → Prop}
    (go : wpAny (model prog w) A.in1 (call (.ref f) [.ref x, b]) (fun v s' => ∃ r, v = .bool r ∧ Q (some (.bool (!r))) s') E ⟨h, g, d, t, os⟩) :
    wpAny (model prog w) A (tryCompare (.ref x) "__ne__" b) Q E ⟨h, g, d, t, os⟩ := by
  obtain ⟨o, of, nm, q, N, bs, hdct, sn, sub, ab, col, dd, k0, k1, k2, k3, k5, newId, mN, yv, hx, hc, hC, hn, _, _, _, _, _, hne⟩ := id X
  simp only [tryCompare]
  refine wpAny_bind (wpAny_callSpecialIfBound?_inst hx hc hC hn hne FB.mro FB.ne (wpAny_call (codeAny_call_builtin FB.ne.plain F.cmpEntry_ne
    (wpAny_check_slot_inst F.cmpKind_ne F.cmpSplit_ne (F.cmpArgs_ne _ _) FB.hasObject hx hc hC
      (ne_entryV (A := A.in1) X hu (wpAny_mono go (fun v s' hv => ?_) fun _ _ e => e))))))
  obtain ⟨b, rfl, hq⟩ := hv
  first | exact ⟨b, rfl, wpAny_pure hq⟩ | exact ⟨b, rfl, wpAny_pure (wpAny_pure hq)⟩ | exact ⟨b, rfl, hq⟩
theorem ne_richV (FB : CmpFacts B bm) (X : h.OwnEqNoNe x C f B bm) (KI : K.In h) (hb : Looks (model prog w) h (typeOf b) (.type T)) (hs : subIn K (.type T) (.ref C) = some false) (hu : A.units + 1 < cLine) {Q : Value → Shared → Prop}
    (go : wpAny (model prog w) A.in1 (call (.ref f) [.ref x, b]) (fun v s' => ∃ r, v = .bool r ∧ Q (.bool (!r)) s') E ⟨h, g, d, t, os⟩) :
    wpAny (model prog w) A (richCompare .NotEq (.ref x) b) Q E ⟨h, g, d, t, os⟩ := by
  have X' := X
  obtain ⟨o, of, nm, q, N, bs, hdct, sn, sub, ab, col, dd, k0, k1, k2, k3, k5, newId, mN, yv, hx, hc, _⟩ := X'
  unfold richCompare
  simp only [oneThing_ref]
  refine wpAny_holding ?_
  refine wpAny_bind (wpAny_cRoomFor_or (.inr (Nat.lt_of_succ_lt hu)) ?_)
  rw [cmpInfo_NotEq]
  dsimp only
  refine wpAny_bind (wpAny_typeOf_ref hx ?_)
  rw [hc]
  refine wpAny_bind (hb.here ?_)
  rw [show (Value.ref C != Value.type T) = true from rfl]
  simp only [if_true]
  refine wpAny_bind (wpAny_sub KI hs ?_)
  simp only [Bool.false_eq_true, if_false]
  refine wpAny_bind (ne_tryV FB X hu (wpAny_mono go (fun v s' hv => ?_) fun _ _ e => e))
  obtain ⟨b, rfl, hq⟩ := hv
  first | exact ⟨b, rfl, wpAny_pure hq⟩ | exact ⟨b, rfl, wpAny_pure (wpAny_pure hq)⟩
end
end PySem.W
namespace Y
open PySem PySem.Spec PyProof.Rows L2 SX Z
section
variable {c : Ct} {σ : Sg} {y : DT} {C : Addr} {fs : List (Str × DT)} {k : Nat} {ps : List Str} {spec : TSpec} {b : Bool}
/-- instance != a value of a built-in type -/
theorem po_neOV [Calm c] (mt : DtM c.P c.w c.K c.mg c.base C "__eq__" ps k spec) (hk : k + 1 ≤ c.k) (ho : PySem.W.ownB c.K C = true) (bk : BkC c.K C) (hy : bi y = true) (hs : ∀ {Q : DT → Sg → Prop} {E : TX}, Q (.bl b) σ → spec [.obj C fs, y] σ Q E) : PO2 c (compareOp .NotEq) (.obj C fs) y σ (.bl (!b)) := ⟨fun X hX H K w v u rv ru Q' q => by
  obtain ⟨f, fd, hm, hb, Fn⟩ := mt
  have hX' := hX
  cases hX' with
  | mk _ k' Wx fl hpp hrH hcf hh hp' ht hf hN hU hst =>
    obtain rfl : hpp = none := ‹Calm _›.h
    obtain ⟨hcc, hr⟩ := hcf rfl
    intro pins s st vv uu I r1 r2
    have rv' := rv
    cases rv' with
    | @obj ad _ dx vs _ ea ed rf =>
      cases r1
      obtain ⟨mA, O, _, _, _, _⟩ := ins_get I.hok (w.le _ _ ea)
      obtain ⟨od, J, _⟩ := O.look
      have kin := I.kIn
      obtain ⟨T, hT, mem⟩ := bi_ty hy
      obtain ⟨P, KX, hP, _⟩ := kit_of I r2 (tyT_x w ru (hT σ))
      have lk := KX.ty (model X.prog X.w) s.heap kin hP
      have run := runAt (Q := fun v K2 => v = .bl b ∧ Q' (.bl (!b)) K2) (vs := [.ref ad, u]) (us := [.ref ad, uu]) (E' := X.xe) Fn ((hr.mono hk).in1) hU rfl hb I (.cons rfl (.cons r2 .nil)) ⟨[.obj C fs, y], H, σ, fun d' σ' => d' = .bl b ∧ σ' = σ, TX0, w, .cons rv (.cons ru .nil), hs ⟨rfl, rfl⟩, fun v d σ' H' K' s w' r ⟨e1, e2⟩ => by subst e1 e2; cases r; exact ⟨rfl, q _ H' K' s w' (.bl _)⟩, fun _ _ _ _ _ _ _ _ _ z => z⟩
      have hu := hr.units
      obtain ⟨hp, g, dr, tk, os⟩ := s
      show wpAny (model X.prog X.w) X.A (richCompare .NotEq (.ref ad) uu) (EP X pins st Q') X.xe _
      refine PySem.W.ne_richV (T := T) PySem.F.cmp_object (PySem.W.ownB_ok kin ho J.1 J.cls hm.at_ hm.fn) kin lk (bk.dn T mem) (by omega) ?_
      refine wpAny_mono run (fun r s2 z => ?_) fun _ _ z => z
      obtain ⟨v2, K3, I3, rz, ez, q3⟩ := z
      subst ez
      cases rz
      exact ⟨b, rfl, .bl (!b), K3, I3, rfl, q3⟩⟩
end
end Y
namespace Y
open PySem PySem.Spec PyProof.Rows L2 SX Z
theorem repA_rev {F : PySem.W.Frag} {H : Hp} : ∀ {vs : List V} {ds : List DT}, RepA F H vs ds → RepA F H vs.reverse ds.reverse
  | _, _, .nil => .nil
  | _, _, .cons h t => by
    rw [List.reverse_cons, List.reverse_cons]
    exact (repA_rev t).append (.cons h .nil)
section
variable {c : Ct} {ρ : EnvT} {σ : Sg} {Q : DT → Sg → Prop} {E : TX} {e : Expr} {pos : Pos} {x : DT} {xs : List DT}
/-- the slice [::-1] of a list -/
theorem te_revL {k1 : Nat} {p1 p2 p3 : Pos} (h : TE c e ρ σ (fun d σ1 => ∃ xs, LsT σ1 d xs ∧ Q (.lst xs.reverse) σ1) E) : TE c (.Subscript e (.Slice none none (some (.UnaryOp .USub (.Constant (.int 1) k1 p1) p2)) p3) pos) ρ σ Q E := ⟨fun X hX st H K w r xc Q' f => by
  have hX' := hX
  cases hX'
  refine cE_of (pe_revL cE_pe) (h.run X hX st H K w r xc _ fun v d σ1 H1 K1 g w1 rv ⟨xs, ex, q⟩ => ?_)
  obtain ⟨a, vs, rfl, q1, ra⟩ := ex.now w1 rv
  refine ⟨a, vs, rfl, q1, fun z hz => ?_⟩
  obtain ⟨g2, w2⟩ := w1.new (o := .lst vs.reverse) hz
  exact f _ _ σ1 _ _ (g.trans g2) w2 (.lst upd_same ((repA_rev ra).same g2.b)) q⟩
theorem tv_revL {k1 : Nat} {p1 p2 p3 : Pos} (h : TV c e ρ σ x) (hx : LsT σ x xs) : TV c (.Subscript e (.Slice none none (some (.UnaryOp .USub (.Constant (.int 1) k1 p1) p2)) p3) pos) ρ σ (.lst xs.reverse) := ⟨fun q => te_revL (h.to ⟨xs, hx, q⟩)⟩
end
section
variable {c : Ct} {ρ : EnvT} {σ : Sg} {Q : DT → Sg → Prop} {E : TX} {a b : Expr} {pos p : Pos}
/-- a + b, a list that is to change -/
theorem te_catC (h : TE c a ρ σ (fun x σ1 => TE c b ρ σ1 (fun y σ2 => ∃ xs ys, LsX σ2 x xs ∧ LsX σ2 y ys ∧ xs.length + ys.length ≤ 16777216 ∧ ∀ p, σ2 p = none → Q (.ref p) (su σ2 p (.lst (xs ++ ys)))) E) E) : TE c (.BinOp a .Add b pos) ρ σ Q E := ⟨fun X hX st H K w r xc Q' f => by
  refine cE_of (pe_op op_cat cE_pe cE_pe) ?_
  refine h.run X hX st H K w r xc _ fun v x σ1 H1 K1 s1 w1 r1 h1 => ?_
  refine h1.run X hX st H1 K1 w1 (r.same s1.b) (xc.next s1) _ fun u y σ2 H2 K2 s2 w2 r2 ⟨xs, ys, hx, hy, hl, q⟩ => ?_
  obtain ⟨a, vs, rfl, q1, ra⟩ := hx.now w2 (r1.same s2.b)
  obtain ⟨b, us, rfl, q2, rb⟩ := hy.now w2 r2
  refine ⟨a, b, vs, us, rfl, rfl, q1, q2, by rw [ra.length, rb.length, sizeLine_eq]; exact hl, fun p hp => ?_⟩
  exact f _ _ _ H2 _ ((s1.trans s2).trans (Gw.newC hp)) ((w2.push (o := .lst (vs ++ us)) hp).add (c := .lst (xs ++ ys)) (none_of w2.le hp) ⟨_, upd_same, ra.append rb⟩) (.ref p) (q p (w2.free hp))⟩
/-- dict(pairs), the keys perhaps not distinct -/
theorem te_dictPF [Calm c] (hg : GlS c "dict") (hm : c.mg "dict" = none) (h : TE c a ρ σ (fun x σ1 => ∃ l : List (DK × DT), LsT σ1 x (l.map fun p => .tup [dk p.1, p.2]) ∧ ∀ q, σ1 q = none → Q (.ref q) (su σ1 q (.dct (l.foldl (fun a p => putT a p.1 p.2) [])))) E)
    (he : ∀ env, starEach [a] env = (false, eval a env) :: starEach [] env := by intro _; rfl) (hpl : ∀ pos env, (backTo pos (starEach [] env)).any (·.1) = false := by intro _ _; rfl) : TE c (.Call (.Name "dict" p) [a] [] pos) ρ σ Q E := ⟨fun X hX st H K w r xc Q' fo => by
  have hc := con_calm hX
  have hX' := hX
  cases hX'
  refine cE_of (pe_callTy (call_dictP hc) hg hm (by exact bt_dict) (cA_pa (e := [a])) (by decide) (by decide) (he _) (hpl _ _)) ?_
  refine (ta_cons (QA := fun ds σ1 => ∃ x l, ds = [x] ∧ LsT σ1 x (l.map fun p : DK × DT => .tup [dk p.1, p.2]) ∧ ∀ q, σ1 q = none → Q (.ref q) (su σ1 q (.dct (l.foldl (fun a p => putT a p.1 p.2) [])))) (h.imp fun x σ1 ⟨l, h1, h3⟩ => ta_nil ⟨x, l, rfl, h1, h3⟩) he).run X hX st H K w r xc _ fun vs ds σ1 H1 K1 s1 w1 r1 ⟨x, l, ed, hx, q⟩ => ?_
  subst ed
  obtain ⟨u, rfl, ru⟩ := repA_one r1
  obtain ⟨b, ws, rfl, q1, ra⟩ := hx.now w1 ru
  obtain ⟨ps, kvs, rfl, hp, rk⟩ := pairs_rep w1.le l ws ra
  refine ⟨b, ps, kvs, rfl, q1, hp, fun z hz => ?_⟩
  have rm := RepK.merge l [] kvs [] rk .nil
  exact fo _ _ _ H1 _ (s1.trans (Gw.newC hz)) ((w1.push (o := .dK (mergeK [] kvs)) hz).add (c := .dct _) (none_of w1.le hz) ⟨_, upd_same, rm⟩) (.ref z) (q z (w1.free hz))⟩
theorem tv_dictPF [Calm c] {x : DT} {l : List (DK × DT)} (hg : GlS c "dict") (hm : c.mg "dict" = none) (ha : TV c a ρ σ x) (hx : LsT σ x (l.map fun p => .tup [dk p.1, p.2])) (he : ∀ env, starEach [a] env = (false, eval a env) :: starEach [] env := by intro _; rfl) : TV c (.Call (.Name "dict" p) [a] [] pos) ρ σ (.dct (l.foldl (fun a p => putT a p.1 p.2) [])) :=
  ⟨fun {Q E} q => te_frz (te_dictPF hg hm (ha.to ⟨l, hx, fun z hz => ⟨z, _, rfl, su_same, by rw [sd_su hz]; exact q⟩⟩) he)⟩
end
section
variable {c : Ct} {ρ : EnvT} {σ : Sg} {o : Expr} {p pos apos mpos : Pos} {x : DT} {kvs : List (DK × DT)}
theorem tv_listIt [Calm c] (hg : GlS c "list") (hm : c.mg "list" = none) (h : TV c o ρ σ x) (hx : DiT σ x kvs)
    (hbase : ∀ env, attributeBase o "items" env (eval o env) = eval o env := by intro _; rfl) (hline : (apos.endLine == mpos.line) = true := by rfl)
    (he : ∀ env, starEach [Expr.Call (.Attribute o "items" apos) [] [] mpos] env = (false, eval (Expr.Call (.Attribute o "items" apos) [] [] mpos) env) :: starEach [] env := by intro _; rfl) (hpl : ∀ pos env, (backTo pos (starEach [] env)).any (·.1) = false := by intro _ _; rfl) :
    TV c (.Call (.Name "list" p) [.Call (.Attribute o "items" apos) [] [] mpos] [] pos) ρ σ (.lst (kvs.map fun kv => .tup [dk kv.1, kv.2])) := ⟨fun q => te_listIt hg hm (h.to ⟨kvs, hx, q⟩) hbase hline he hpl⟩
end
end Y

/-! Yz: sorted(set(xs)), xs a list of texts. -/
namespace Y
open PySem PySem.Spec PyProof.Rows L2 SX Z
open PySem.Froz (SD sObj TxOk addTx tailTx)
def txt : Value → Str
  | .str k _ => k
  | _ => Str.empty
/-- the set of the texts l at a, each once; it can be walked -/
def SetTx (P : Program) (w : World) (h : Heap) (a : Addr) (l : List Str) : Prop := ∃ D : SD, h.get? a = some (sObj "set" D) ∧ TxOk P w D l ∧ (w.params.followText "set-order" = true ∨ D.2.2.led = true) ∧ Ris D.2.2.place.toList ∧ (D.1.toList.map fun e => txt e.2).Perm l
theorem tail_perm (ep : Nat) (es : Array (Int × Value)) (t : SetTable) (wd : Bool) : (tailTx ep es t wd).1.toList.Perm es.toList := by
  unfold tailTx
  split
  · exact relayAll_perm t es _
  · exact List.Perm.refl _
theorem add_perm (h : Int) (v : Value) (D : SD) : (addTx h v D).1.toList.Perm ((h, v) :: D.1.toList) := by
  have a := layNew_perm D.2.2 D.1 h v
  rw [Array.toList_push] at a
  have b := a.trans (List.perm_append_singleton _ _)
  unfold addTx
  exact (tail_perm _ _ _ _).trans b
def SetXO (P : Program) (w : World) (a : Addr) (l : List Str) : HO := .ext fun h => SetTx P w h a l
theorem SetTx.mv {P : Program} {w : World} {h h' : Heap} {a : Addr} {l : List Str} (R : SetTx P w h a l) (k : ∀ o, h.get? a = some o → h'.get? a = some o) : SetTx P w h' a l :=
  let ⟨D, e, r⟩ := R
  ⟨D, k _ e, r⟩
theorem setX_ok {P : Program} {w : World} {H : Hp} {h : Heap} {a : Addr} {l : List Str} (R : SetTx P w h a l) : ObjOk P w H h a (SetXO P w a l) :=
  ⟨R, let ⟨_, e, _⟩ := R; ⟨_, e⟩, fun _ _ p k => SetTx.mv p k⟩
theorem tail_ris {ep : Nat} {es : Array (Int × Value)} {t : SetTable} {wd : Bool} (r : Ris t.place.toList) : Ris (tailTx ep es t wd).2.2.place.toList ∧ (tailTx ep es t wd).2.2.led = t.led := by
  unfold tailTx
  split
  · exact ⟨relayAll_ris .., relayAll_led ..⟩
  · exact ⟨r, rfl⟩
theorem add_ris (h : Int) (v : Value) (D : SD) (r : Ris D.2.2.place.toList) : Ris (addTx h v D).2.2.place.toList ∧ (addTx h v D).2.2.led = D.2.2.led := by
  have a := layNew_ris D.2.2 D.1 h v r
  have b := layNew_led D.2.2 D.1 h v
  unfold addTx
  by_cases c : (layNew D.2.2 D.1 h v).2.1.plain = true
  · rw [if_pos c]
    have z := tail_ris (ep := D.2.1) (es := (layNew D.2.2 D.1 h v).1) (t := { (layNew D.2.2 D.1 h v).2.1 with plain := false }) (wd := (layNew D.2.2 D.1 h v).2.2.1) a
    exact ⟨z.1, z.2.trans b⟩
  · rw [if_neg c]
    have z := tail_ris (ep := D.2.1) (es := (layNew D.2.2 D.1 h v).1) (t := (layNew D.2.2 D.1 h v).2.1) (wd := (layNew D.2.2 D.1 h v).2.2.1) a
    exact ⟨z.1, z.2.trans b⟩
section
variable {P : Program} {w : World} {A : Around} {E : Value → Shared → Prop} {s : Shared}
/-- the add of a text that is there -/
theorem add_there {a : Addr} {D : SD} {l : List Str} {k : Str} {u : Tok} {Q : Bool → Shared → Prop} (at_ : s.heap.get? a = some (sObj "set" D)) (F : TxOk P w D l) (hk : k ∈ l) (hb : l.length < scanBound) (go : Q false s) :
    wpAny (model P w) A (setAddHashed a (.str k u) (hashStr w k)) Q E s := by
  obtain ⟨xs, ep, t⟩ := D
  have nn : xs.size = l.length := F.sz
  have dd : (sObj "set" (xs, ep, t)).data = .set xs ep t := rfl
  have key : (strKind P w).is k (.str k u) = true := Froz.is_str k u
  have el : ElemsOf (strKind P w) xs.toList := F.el
  unfold setAddHashed setAddHashedIn
  refine wpAny_holding (wpAny_bind (wpAny_setState_of at_ dd F.fit ?_))
  dsimp only
  rw [byScan_of rfl (by omega) el]
  simp only [↓reduceIte]
  unfold setAddByScan
  refine wpAny_bind (wpAny_bind (wpAny_rule (wpAny_bind (wpAny_setScan_of (knd := strKind P w) (k := k) key at_ dd F.fit el ?_))))
  obtain ⟨e, he, q⟩ := (F.mem k).mp hk
  cases hr : List.findIdx? (fun e => (strKind P w).is k e.2) xs.toList with
  | none =>
    have c := List.findIdx?_eq_none_iff.mp hr e he
    rw [q] at c
    cases c
  | some j => exact wpAny_pure (wpAny_pure go)
/-- the loop of set(xs) -/
theorem set_texts {J : Addr} {fp wr : List Addr} {G : Array GenState → Array GenState → Prop} {n : Nat} {Pv : Nat → Value → Prop} {St : Nat → Shared → Prop} {R : Result → Shared → Prop} (W : WalksS P w A.in1 J fp wr G n Pv St) (B : Addr) (nf : B ∉ fp) (xs : List Str) (hn : n = xs.length) (hb : xs.length + 1 < scanBound)
    (val : ∀ i v, Pv i v → ∃ k t, xs[i]? = some k ∧ v = .str k t) : ∀ (m i : Nat) (s : Shared), n - i = m → i ≤ n → St i s → (∃ l, SetTx P w s.heap B l ∧ l.length ≤ i ∧ l.Nodup ∧ ∀ k, k ∈ l ↔ k ∈ xs.take i) →
      (∀ s' l, Moved (B :: wr) G s s' → SetTx P w s'.heap B l → l.length ≤ n → l.Nodup → (∀ k, k ∈ l ↔ k ∈ xs) → R (.ok (.ret .none)) s') →
      codeAny (model P w) A (.builtin "set.update.loop" ⟨[.ref B, .ref J], []⟩) R s := by
  have nw : B ∉ wr := fun z => nf (W.sub _ z)
  have up : ∀ b ∈ wr, b ∈ B :: wr := fun b z => List.mem_cons_of_mem _ z
  intro m
  induction m with
  | zero =>
    rintro i s em hi st ⟨l, R1, l1, l2, l3⟩ go
    obtain rfl : i = n := by omega
    refine codeAny_builtin F.entry_set_update_loop ?_
    rw [Around.under_plainId F.plain_set_update_loop _]
    show wpAny _ A.in1 (pyNext (.ref J) >>= _) _ _ s
    refine wpAny_bind (W.done s _ _ st fun s' mv => wpAny_pure (go s' l (mv.mono up) (R1.mv fun o e => mv.heap B o nw e) l1 l2 fun k => ?_))
    rw [l3 k, List.take_of_length_le (by omega)]
  | succ m ih =>
    rintro i s em hi st ⟨l, R1, l1, l2, l3⟩ go
    refine codeAny_builtin F.entry_set_update_loop ?_
    rw [Around.under_plainId F.plain_set_update_loop _]
    show wpAny _ A.in1 (pyNext (.ref J) >>= _) _ _ s
    refine wpAny_bind (W.item i s _ _ (by omega) st fun v s' pv st' mv => ?_)
    obtain ⟨z, t, hz, rfl⟩ := val i v pv
    obtain ⟨D, d1, d2, d3, d4, d5⟩ := R1.mv fun o e => mv.heap B o nw e
    show wpAny _ A.in1 (holding [Value.str z t] (setAdd B (.str z t)) >>= _) _ _ s'
    refine wpAny_bind (wpAny_holding ?_)
    unfold setAdd
    refine wpAny_holding (wpAny_bind ((strKind P w).pyHash (k := z) (Froz.is_str z t) ?_))
    have tk : ∀ k, k ∈ xs.take (i + 1) ↔ k ∈ l ∨ k = z := fun k => by rw [List.take_add_one, hz, List.mem_append, l3 k]; simp
    by_cases hm : z ∈ l
    · refine add_there (s := { s' with toks := s'.toks + 1 }) d1 d2 hm (by omega) ?_
      refine wpAny_pure ⟨plainId_quiet F.plain_set_update_loop _, ih (i + 1) _ (by omega) (by omega) (W.frame _ s' s'.heap _ st' (Nat.le_succ _) fun b _ o e => e) ⟨l, ⟨D, d1, d2, d3, d4, d5⟩, by omega, l2, fun k => ?_⟩ fun s'' l' mv' => go s'' l' (Moved.trans W.gtrans ((mv.mono up).then_heap (Nat.le_succ _) fun b o _ e => e) mv')⟩
      rw [tk k]
      exact ⟨.inl, fun y => y.elim id fun e => e ▸ hm⟩
    · refine Froz.add_x (s := { s' with toks := s'.toks + 1 }) d1 d2 hm (by omega) ?_
      have ne : ∀ b o, b ≠ B → s'.heap.get? b = some o → (s'.heap.update B fun _ => sObj "set" (addTx (hashStr w z) (.str z t) D)).get? b = some o := fun b o y e => (Heap.get?_update_other _ _ (Ne.symm y)).trans e
      have rr := add_ris (hashStr w z) (.str z t) D d4
      refine wpAny_pure ⟨plainId_quiet F.plain_set_update_loop _, ih (i + 1) _ (by omega) (by omega) (W.frame _ s' _ _ st' (Nat.le_succ _) fun b hb o e => ne b o (fun y => nf (by rw [← y]; exact hb)) e)
        ⟨z :: l, ⟨_, Froz.get_upd _ d1 rfl, Froz.add_ok t d2, d3.imp id fun y => rr.2.trans y, rr.1, ((add_perm (hashStr w z) (.str z t) D).map fun e : Int × Value => txt e.2).trans (d5.cons z)⟩, by rw [List.length_cons]; omega, List.nodup_cons.mpr ⟨hm, l2⟩, fun k => ?_⟩ fun s'' l' mv' => go s'' l' (Moved.trans W.gtrans ((mv.mono up).then_heap (Nat.le_succ _) fun b o hb e => ne b o (fun y => hb (by rw [y]; exact List.mem_cons_self)) e) mv')⟩
      rw [tk k, List.mem_cons]
      exact Or.comm
def emptyS (w : World) : Obj := { cls := .type "set", dict := none, data := .set #[] 0 (.fresh 0 0 (!w.params.followText "set-order")) }
theorem empty_tx {h : Heap} {a : Addr} (e : h.get? a = some (emptyS w)) : SetTx P w h a [] := ⟨(#[], 0, .fresh 0 0 (!w.params.followText "set-order")), e, TxOk.nil (by rfl), (by show _ ∨ (!w.params.followText "set-order") = true; cases w.params.followText "set-order" <;> simp), List.Pairwise.nil, List.Perm.refl _⟩
theorem texts_at {vs : Array Value} {xs : List Str} (r : StrsAre vs.toList xs) (i : Nat) (v : Value) (e : vs[i]? = some v) : ∃ k t, xs[i]? = some k ∧ v = .str k t := by
  have gen : ∀ {us : List Value} {xs : List Str}, StrsAre us xs → ∀ (i : Nat) (v : Value), us[i]? = some v → ∃ k t, xs[i]? = some k ∧ v = .str k t := by
    intro us xs r
    induction r with
    | nil => intro i v e; cases e
    | cons k t r ih =>
      intro i v e
      cases i with
      | zero => cases e; exact ⟨k, t, rfl, rfl⟩
      | succ i => exact ih i v e
  exact gen r i v (by rw [Array.getElem?_toList]; exact e)
set_option maxHeartbeats 3200000 in
/-- set(xs) -/
theorem call_setT {l : Addr} {vs : Array Value} (xs : List Str) {Q : Value → Shared → Prop} (calm : A.handled = none) (isl : s.heap.IsList l vs) (are : StrsAre vs.toList xs) (room : xs.length + 1 < scanBound)
    (go : ∀ (h' : Heap) (tk : Nat) (ys : List Str), SetTx P w h' s.heap.objs.size ys → ys.length ≤ xs.length → ys.Nodup → (∀ k, k ∈ ys ↔ k ∈ xs) → (∀ b o, s.heap.get? b = some o → h'.get? b = some o) → Q (.ref s.heap.objs.size) { s with heap := h', toks := tk }) :
    wpAny (model P w) A (call (.type "set") [.ref l]) Q E s := by
  have sz : vs.size = xs.length := by have q := StrsAre.len_eq are; rw [Array.length_toList] at q; exact q
  obtain ⟨m0, m1, m2⟩ := F.called_set.mro
  have k1 := F.called_set.made
  have k2 := F.called_set.sub
  have k3 := F.called_set.notType
  have k4 := F.called_set.canCreate
  have k5 := F.typeCall_set_1 (.ref l)
  refine wpAny_call (codeAny_of_tree ?_)
  show wpAny _ _ (callAny (.type "set") _) _ _ _
  refine wpAny_pure ⟨Code.quiet_builtin _ (by decide +kernel), codeAny_builtin F.entry_type_call ?_⟩
  rw [Around.under_plain (weight_type_call_type "set" [.ref l] []) rfl]
  repeat any_goals first | assumption | wp_step
  refine codeAny_mono (code_set_led1 (.ref l) (E := E) (Q₁ := fun ob s1 => ob = .ref s.heap.objs.size ∧ s1 = { s with heap := s.heap.push (emptyS w) }) ⟨rfl, rfl⟩) fun r s1 hr => ?_
  match r, hr with
  | .error e, hr => exact hr
  | .ok .next, hr => exact hr.elim
  | .ok .brk, hr => exact hr.elim
  | .ok .cont, hr => exact hr.elim
  | .ok (.ret ob), hr =>
    obtain ⟨e1, e2⟩ := hr
    subst e1 e2
    have new : (s.heap.push (emptyS w)).get? s.heap.objs.size = some (emptyS w) := Heap.get?_push_size _ rfl
    have ty : Shared.TypeIs { s with heap := s.heap.push (emptyS w) } (.ref s.heap.objs.size) "set" := ⟨_, new, rfl⟩
    have k6 := F.called_set.init.lookup
    have k7 := F.called_set.init.bind (.ref s.heap.objs.size)
    repeat any_goals first | assumption | wp_step
    refine codeAny_mono (codeAny_call_builtin (R := wants (fun r s2 => r = .none ∧ ∃ h' tk ys, s2 = { s with heap := h', toks := tk } ∧ SetTx P w h' s.heap.objs.size ys ∧ ys.length ≤ xs.length ∧ ys.Nodup ∧ (∀ k, k ∈ ys ↔ k ∈ xs) ∧ (∀ b o, s.heap.get? b = some o → h'.get? b = some o)) E) F.called_set.init.plain F.entry_set_init (check_set_init_1 ty ?_)) fun r2 s2 hr2 => ?_
    · obtain ⟨⟨oc, od, oda, osl⟩, a1, a2, n0, a3⟩ := isl
      simp only at a2 a3
      subst a2 a3
      have at2 : (s.heap.push (emptyS w)).get? l = some { cls := .type "list", dict := od, data := .seq vs n0, slots := osl } := Heap.get?_push_of_some _ a1
      have f1 := F.sub_list_set
      have f2 := F.sub_list_frozenset
      have f3 : (Value.type "list" == Value.type "dict") = false := by decide
      have isl2 : (s.heap.push (emptyS w)).IsList l vs := ⟨_, at2, rfl, n0, rfl⟩
      unfold Builtin.«set.__init__» noKeywords Builtin.Frozenset.updateFrom
      generalize hPI : pyIter = PI
      wp_walk
      subst hPI
      refine wpAny_pyIter_list isl2 (wpAny_bind (wpAny_runValue ?_))
      have lt : l < s.heap.objs.size := Heap.lt_size a1
      have sp : (s.heap.push (emptyS w)).objs.size = s.heap.objs.size + 1 := Heap.size_push ..
      have n1 : l ≠ (s.heap.push (emptyS w)).objs.size := by rw [sp]; exact Nat.ne_of_lt (Nat.lt_succ_of_lt lt)
      have nf : s.heap.objs.size ∉ [(s.heap.push (emptyS w)).objs.size, l] := by
        rw [sp]
        simp only [List.mem_cons, List.not_mem_nil, or_false, not_or]
        exact ⟨Nat.ne_of_lt (Nat.lt_succ_self _), Nat.ne_of_gt lt⟩
      refine set_texts ((Walks.list (by simp [calm]) _ l n1 vs).toS) s.heap.objs.size nf xs sz room (texts_at are) (vs.size - 0) 0 _ rfl (Nat.zero_le _) ⟨⟨_, Heap.get?_push_size _ rfl, rfl, rfl⟩, isl2.push _⟩ ⟨[], empty_tx (Heap.get?_push_of_some _ new), Nat.le_refl _, List.nodup_nil, by simp⟩ fun s' ys mv R1 r1 r2 r3 => ?_
      obtain ⟨h', g', d', tk', os'⟩ := s'
      obtain rfl : g' = s.gens := mv.gens
      obtain rfl : d' = s.drawn := mv.drawn
      obtain rfl : os' = s.os := mv.os
      show wpAny _ _ _ _ _ _
      refine wpAny_pure ?_
      show wpAny _ _ (ret Value.none) _ _ _
      refine wpAny_pure ⟨rfl, h', tk', ys, rfl, R1, by rw [← sz]; exact r1, r2, r3, fun b o e => ?_⟩
      have lb := Heap.lt_size e
      refine mv.heap b o ?_ (Heap.get?_push_of_some _ (Heap.get?_push_of_some _ e))
      rw [sp]
      simp only [List.mem_cons, List.not_mem_nil, or_false, not_or]
      exact ⟨Nat.ne_of_lt lb, Nat.ne_of_lt (Nat.lt_succ_of_lt lb)⟩
    · match r2, hr2 with
      | .error e, hr2 => exact hr2
      | .ok .next, hr2 => exact hr2.elim
      | .ok .brk, hr2 => exact hr2.elim
      | .ok .cont, hr2 => exact hr2.elim
      | .ok (.ret z), hr2 =>
        obtain ⟨e1, h', tk, ys, e2, R1, r1, r2, r3, r4⟩ := hr2
        subst e1 e2
        repeat any_goals first | assumption | wp_step
        exact go _ _ ys R1 r1 r2 r3 r4
end
def rSetT (P : Program) (w : World) (K : PySem.W.Frag) : List V → Hp → VK → Prop := fun vs H Q => ∃ (l : Addr) (xs : List Str), vs = [V.ref l] ∧ SqL K H l (xs.map V.str) ∧ xs.length ≤ 4000 ∧ ∀ (p : Addr) (ys : List Str), H p = none → ys.length ≤ xs.length → ys.Nodup → (∀ k, k ∈ ys ↔ k ∈ xs) → Q (.ref p) (upd H p (SetXO P w p ys))
theorem cr_setT {X : Cx} (hc : X.calm = true) : CallR X (.type "set") (rSetT X.prog X.w X.K) := by
  rintro pins s st H vs us Q I r ⟨l, xs, rfl, hs, hn, q⟩
  obtain ⟨its, rv, hl, hz⟩ := I.list hs
  rw [Vals.ref1 r]
  refine call_setT xs (I.ok.hd hc) hl.isList (by simpa using rv.strs) (by unfold scanBound; omega) fun h' tk ys R r1 r2 r3 r4 => ?_
  exact ⟨.ref _, upd H s.heap.objs.size (SetXO X.prog X.w s.heap.objs.size ys), I.laid (t' := tk) (fun b u e => r4 b u e) (Nat.le_refl _) (setX_ok R), rfl, q _ ys (I.hok.fresh (Nat.le_refl _)) r1 r2 r3⟩
def rSortedT (P : Program) (w : World) : List V → Hp → VK → Prop := fun vs H Q => ∃ (a : Addr) (l : List Str), vs = [V.ref a] ∧ H a = some (SetXO P w a l) ∧ l.length ≤ 4000 ∧ ∀ (ys : List Str) (p : Addr), ys.Perm l → sortedS ys = true → H p = none → Q (.ref p) (upd H p (.lst (ys.map V.str)))
/-- sorted(s), a set of texts -/
theorem cr_sortedT {X : Cx} (hc : X.calm = true) : CallR X (.builtin "sorted") (rSortedT X.prog X.w) := by
  rintro pins s st H vs us Q I r ⟨a, l, rfl, ha, hn, q⟩
  rw [Vals.ref1 r]
  obtain ⟨⟨es, ep, t⟩, d1, d2, d3, d4, d5⟩ := (I.hok a _ ha).1
  have nn : es.size = l.length := d2.sz
  refine Calls.call_function_entry kind_sorted plain_sorted entry_sorted (args_sorted1 _) ?_
  unfold Builtin.«sorted»
  refine wpAny_bind (m := checkCount "sorted" 1 1 _) (wpAny_pure (wpAny_bind (collect_set (A := X.A.in1) (I.ok.hd hc) ⟨_, d1, rfl, rfl⟩ d2.fit (by rw [nn]; unfold scanBound; omega) d4 d3 fun s1 out k1 hz g1 o1 pm => ?_)))
  have each : ∀ v ∈ out, ∃ k t, v = Value.str k t := fun v hv => by
    obtain ⟨e, he, rfl⟩ := List.mem_map.mp (pm.mem_iff.mp hv)
    obtain ⟨⟨k, hk, _⟩, _⟩ := d2.el e he
    obtain ⟨t, q⟩ := Value.isStrOf_shape (x := k) (v := e.2) hk
    exact ⟨k, t, q⟩
  have hS : StrsAre out (out.map txt) := by
    clear pm
    induction out with
    | nil => exact .nil
    | cons v vs ih =>
      obtain ⟨k, t, rfl⟩ := each v List.mem_cons_self
      exact .cons k t (ih fun u hu => each u (List.mem_cons_of_mem _ hu))
  have pl : (out.map txt).Perm l := by
    have := pm.map txt
    rw [List.map_map] at this
    exact this.trans d5
  have n3 : out.length = l.length := by rw [← List.length_map (f := txt), pl.length_eq]
  have n2 : l.length ≤ sizeLine := by rw [sizeLine_eq]; omega
  refine wpAny_bind (wpAny_newList ?_ (by rw [n3]; exact n2))
  have top : (s1.heap.push (seqObj "list" out.toArray 0)).get? s1.heap.objs.size = some (seqObj "list" out.toArray 0) := Heap.get?_push_size _ rfl
  refine wpAny_bind (wpAny_holding (wpAny_call_entry slot_list_sort (s := { s1 with heap := s1.heap.push (seqObj "list" out.toArray 0) }) ⟨_, top, rfl⟩ entry_list_sort
    (list_sort_treeKAny strKind_oneLt (s := { s1 with heap := s1.heap.push (seqObj "list" out.toArray 0) }) top hS.keysOf (fun w1 w2 rest e => keyKind_strs (by rw [← e]; exact hS)) (by rw [n3]; exact n2) fun st' hp hs => ⟨_, rfl, ?_⟩) (args_list_sort _)))
  obtain ⟨ys, g3, g4, g5⟩ := sorted_out_str hS hp hs
  obtain ⟨e1, at1⟩ := sortedHeap_at (vs := out) (out := (arrOf st').map (·.2)) top
  have n4 : (ys.map V.str).length ≤ sizeLine := by rw [List.length_map, g4.length_eq, pl.length_eq]; exact n2
  have old : ∀ b u, s.heap.get? b = some u → (sortedHeap (s1.heap.push (seqObj "list" out.toArray 0)) s1.heap.objs.size out ((arrOf st').map (·.2))).get? b = some u := fun b u e => by
    have lt : b < s1.heap.objs.size := Heap.lt_size (k1 b u e)
    rw [sortedHeap_old (Nat.ne_of_lt lt) (by rw [size_push']; exact Nat.lt_succ_of_lt lt)]
    exact Heap.get?_push_of_some _ (k1 b u e)
  have fr : H s1.heap.objs.size = none := I.hok.fresh hz
  have J : Inv X pins st (upd H s1.heap.objs.size (.lst (ys.map V.str))) { s with heap := sortedHeap (s1.heap.push (seqObj "list" out.toArray 0)) s1.heap.objs.size out ((arrOf st').map (·.2)), gens := s1.gens, drawn := s1.drawn, toks := s1.toks } :=
    I.call (ch := []) (Un.laid old hz fr) (I.hok.laid old hz ⟨n4, ((arrOf st').map (·.2)).toList, e1, vals_of_strs g3, by rw [Array.toArray_toList]; exact at1⟩) (by rw [g1]; exact I.bare) (fun _ z => nomatch z)
  obtain ⟨h1, gg, dd, tt, oo⟩ := s1
  obtain rfl : oo = s.os := o1
  exact wpAny_pure ⟨_, rfl, .ref h1.objs.size, _, J, rfl, q ys _ (g4.trans pl) g5 fr⟩
end Y
namespace Y
open PySem PySem.Spec PyProof.Rows L2 SX Z
def dedL : List (List Nat) → List (List Nat)
  | [] => []
  | x :: r => if x ∈ r then dedL r else x :: dedL r
theorem ded_mem : ∀ (l : List (List Nat)) (k : List Nat), k ∈ dedL l ↔ k ∈ l
  | [], _ => Iff.rfl
  | x :: r, k => by
    unfold dedL
    split
    · next h => rw [ded_mem r k, List.mem_cons]; exact ⟨.inr, fun z => z.elim (fun e => e ▸ h) id⟩
    · rw [List.mem_cons, ded_mem r k, List.mem_cons]
theorem ded_nd : ∀ l : List (List Nat), (dedL l).Nodup
  | [] => List.nodup_nil
  | x :: r => by
    unfold dedL
    split
    · exact ded_nd r
    · next h => exact List.nodup_cons.mpr ⟨fun z => h ((ded_mem r x).mp z), ded_nd r⟩
theorem ded_len : ∀ l : List (List Nat), (dedL l).length ≤ l.length
  | [] => Nat.le_refl _
  | x :: r => by
    have := ded_len r
    unfold dedL
    split
    · rw [List.length_cons]; omega
    · rw [List.length_cons, List.length_cons]; omega
/-- the texts, each once, in ascending order -/
def dedT (l : List (List Nat)) : List (List Nat) := srtT (dedL l)
section
variable {c : Ct} {ρ : EnvT} {σ : Sg} {a : Expr} {pos p p2 q : Pos} {l : List (List Nat)} {Q : DT → Sg → Prop} {E : TX} {x : DT}
theorem te_sortedSet [Calm c] (hg : GlS c "sorted") (hm : c.mg "sorted" = none) (hg2 : GlS c "set") (hm2 : c.mg "set" = none) (h : TE c a ρ σ (fun x σ1 => ∃ l : List (List Nat), LsT σ1 x (l.map DT.str) ∧ l.length ≤ 4000 ∧ Q (.lst ((dedT l).map DT.str)) σ1) E)
    (he : ∀ env, starEach [a] env = (false, eval a env) :: starEach [] env := by intro _; rfl) (hpl : ∀ pos env, (backTo pos (starEach [] env)).any (·.1) = false := by intro _ _; rfl)
    (he2 : ∀ env, starEach [Expr.Call (.Name "set" p2) [a] [] q] env = (false, eval (Expr.Call (.Name "set" p2) [a] [] q) env) :: starEach [] env := by intro _; rfl) :
    TE c (.Call (.Name "sorted" p) [.Call (.Name "set" p2) [a] [] q] [] pos) ρ σ Q E := ⟨fun X hX st H K w r xc Q' fo => by
  have hc := con_calm hX
  have hX' := hX
  cases hX'
  refine cE_of (pe_callB (cr_sortedT hc) hg hm (by exact bt_sorted) (pa_cons (pe_callTy (cr_setT hc) hg2 hm2 (by exact bt_set) (cA_pa (e := [a])) (by decide) (by decide) (he _) (hpl _ _)) pa_nil (he2 _)) (by decide) (by decide) (he2 _) (hpl _ _)) ?_
  refine (ta_cons (QA := fun ds σ1 => ∃ x l, ds = [x] ∧ LsT σ1 x (l.map DT.str) ∧ l.length ≤ 4000 ∧ Q (.lst ((dedT l).map DT.str)) σ1) (h.imp fun x σ1 ⟨l, h1, h2, h3⟩ => ta_nil ⟨x, l, rfl, h1, h2, h3⟩) he).run X hX st H K w r xc _ fun vs ds σ1 H1 K1 s1 w1 r1 ⟨x, l, ed, hx, hn, qq⟩ => ?_
  subst ed
  obtain ⟨u, rfl, ru⟩ := repA_one r1
  obtain ⟨b, ws, rfl, q1, ra⟩ := hx.now w1 ru
  rw [repA_strs ra] at q1
  have e1 : (l.map fun z => V.str (S z)) = (l.map S).map V.str := by rw [List.map_map]; rfl
  rw [e1] at q1
  refine ⟨b, l.map S, rfl, q1, by rw [List.length_map]; exact hn, fun v ys hv yl nd mem => ?_⟩
  obtain ⟨g2, w2⟩ := w1.new (o := SetXO X.prog X.w v ys) hv
  refine ⟨v, ys, rfl, upd_same, by rw [List.length_map] at yl; omega, fun zs z pm srt hz => ?_⟩
  obtain ⟨g3, w3⟩ := w2.new (o := .lst (zs.map V.str)) hz
  have ez : zs = (zs.map fun y => y.cps.toList).map S := by
    rw [List.map_map]
    conv => lhs; rw [← List.map_id zs]
    exact List.map_congr_left fun y _ => (S_tl y).symm
  have inj : ∀ {a b : Str}, a.cps.toList = b.cps.toList → a = b := fun {a b} e => by rw [← S_tl a, ← S_tl b, e]
  have pd : (zs.map fun y => y.cps.toList).Perm (dedL l) := by
    refine (List.perm_ext_iff_of_nodup (List.pairwise_map.mpr ((pm.nodup_iff.mpr nd).imp fun n e => n (inj e))) (ded_nd l)).mpr fun k => ?_
    rw [ded_mem, List.mem_map]
    constructor
    · rintro ⟨y, hy, rfl⟩
      obtain ⟨k, hk, rfl⟩ := List.mem_map.mp ((mem y).mp (pm.mem_iff.mp hy))
      rw [S_codes]; exact hk
    · intro hk
      exact ⟨S k, pm.mem_iff.mpr ((mem _).mpr (List.mem_map.mpr ⟨k, hk, rfl⟩)), S_codes k⟩
  have e4 := srtT_uniq pd (sortedS_pair (by rw [← ez]; exact srt))
  refine fo _ _ σ1 _ _ ((s1.trans g2).trans g3) w3 (.lst upd_same ?_) qq
  rw [ez, e4, List.map_map]
  exact repA_of _ DT.str (fun z => .str z) (dedT l)⟩
theorem tv_sortedSet [Calm c] (hg : GlS c "sorted") (hm : c.mg "sorted" = none) (hg2 : GlS c "set") (hm2 : c.mg "set" = none) (ha : TV c a ρ σ x) (hx : LsT σ x (l.map DT.str)) (hl : l.length ≤ 4000)
    (he : ∀ env, starEach [a] env = (false, eval a env) :: starEach [] env := by intro _; rfl) (hpl : ∀ pos env, (backTo pos (starEach [] env)).any (·.1) = false := by intro _ _; rfl)
    (he2 : ∀ env, starEach [Expr.Call (.Name "set" p2) [a] [] q] env = (false, eval (Expr.Call (.Name "set" p2) [a] [] q) env) :: starEach [] env := by intro _; rfl) :
    TV c (.Call (.Name "sorted" p) [.Call (.Name "set" p2) [a] [] q] [] pos) ρ σ (.lst ((dedT l).map DT.str)) := ⟨fun q => te_sortedSet hg hm hg2 hm2 (ha.to ⟨l, hx, hl, q⟩) he hpl he2⟩
end
end Y

/-! Yoc: instances that change (cells): properties, methods, len; list.count, dict.clear. -/
namespace Y
open PySem PySem.Spec PyProof.Rows L2 SX Z
theorem obX_c {σ : Sg} {p : Addr} {C : Addr} {fs : List (Str × DT)} (h : σ p = some (.obj C fs)) : ObX σ (.ref p) C fs := .inr ⟨p, rfl, h⟩
theorem obX_o {σ : Sg} {C : Addr} {fs : List (Str × DT)} : ObX σ (.obj C fs) C fs := .inl rfl
section
variable {c : Ct} {ρ : EnvT} {σ : Sg} {Q : DT → Sg → Prop} {E : TX} {e a o : Expr} {es : List Expr} {pos p apos : Pos} {d x : DT} {C : Addr} {fs : List (Str × DT)} {f m : Str} {k : Nat} {ps : List Str} {spec : TSpec} {D : EndT}
theorem te_propX [Calm c] (mt : DtP c.P c.w c.K c.mg c.base C f k spec) (hk : k + 1 ≤ c.k) (hc : Cls c.K C) (h : TE c e ρ σ (fun x σ1 => (∃ fs, ObX σ1 x C fs) ∧ spec [x] σ1 Q TX0) E)
    (hab : ∀ env, attributeBase e f env (eval e env) = eval e env := by intro _; rfl) : TE c (.Attribute e f pos) ρ σ Q E := ⟨fun X hX st H K w r xc Q' fo => fun pins s I => by
  obtain ⟨pr, g, fd, hp, hb, F⟩ := mt
  have hX' := hX
  cases hX' with
  | mk _ k' Wx fl hpp hrH hcf hh hp' ht hf hN hU hst =>
    obtain rfl : hpp = none := ‹Calm _›.h
    obtain ⟨hcc, hr⟩ := hcf rfl
    refine attr_of (hab _) (thn (h.run X hX st H K w r xc (fun v K1 => ∃ x fs σ1 H1, Gw H σ K H1 σ1 K1 ∧ Wd X.K H1 σ1 K1 ∧ Rep X.K H1 v x ∧ ObX σ1 x C fs ∧ spec [x] σ1 Q TX0)
      (fun v x σ1 H1 K1 s1 w1 r1 ⟨⟨fs, ox⟩, q⟩ => ⟨x, fs, σ1, H1, s1, w1, r1, ox, q⟩) pins s I) fun u s1 ⟨v, K1, I1, rv, x, fs, σ1, H1, g1, w1, r1, ox, q⟩ => ?_)
    obtain ⟨ad, dx, vs, rfl, ea, rf⟩ := ox.now w1 r1
    cases rv
    obtain ⟨mA, O, _, _, _, _⟩ := ins_get I1.hok ea
    obtain ⟨od, J, _⟩ := O.look
    obtain ⟨rest, hrec⟩ := hp.rec_
    have I2 := I1.tok (s1.toks + 1)
    have ic : (PySem.W.clsIn X.K C).isSome = true := by
      obtain ⟨cd, hcd, _⟩ := PySem.W.any_some hc.hd
      rw [hcd]
      rfl
    have sp2 : spT X.K spec [V.ref ad] K1 Q' (fun _ _ _ => False) := ⟨[x], H1, σ1, Q, TX0, w1, .cons r1 .nil, q, fun v d σ' H' K' s => fo v d σ' H' K' (g1.trans s), fun cls dA x σ' H' K' _ _ _ z => z⟩
    have bnd := hb { s1 with toks := s1.toks + 1 } [Value.ref ad] I2.kIn rfl
    refine PySem.W.get_bind I1.kIn J (PySem.W.plainGet_of (hc.get f)).1 (PySem.W.findObj_data ic hp.at_ hp.get hp.tak) (PySem.W.plainGet_of (hc.get f)).2 (wpAny_call (PySem.W.prop_get (s := { s1 with toks := s1.toks + 1 }) I1.kIn hrec ?_))
    refine codeAny_mono (F.calm X.A.in1 ((hr.mono hk).in1) hU X.stack _ _ I2.env0.in1 ⟨[.ref ad], []⟩ [.ref ad] [.ref ad] (.cons rfl .nil) bnd _ _ sp2) fun res s2 z => ?_
    match res, z with
    | .error er, z =>
      obtain ⟨_, _, _, _, _, _, _, _, _, _, _, _, n⟩ := z
      exact n.elim
    | .ok (.ret u2), z =>
      obtain ⟨v2, K3, I3, rv, q3⟩ := I2.after z
      show wpAny _ _ (handedOut u2) _ _ _
      rw [PySem.W.handedOut_of (handed_of rv)]
      exact wpAny_pure ⟨v2, K3, I3, rv, q3⟩
    | .ok .next, z => exact z.elim
    | .ok .brk, z => exact z.elim
    | .ok .cont, z => exact z.elim⟩
theorem tv_propX [Calm c] (mt : DtP c.P c.w c.K c.mg c.base C f k spec) (hk : k + 1 ≤ c.k) (hc : Cls c.K C) (ha : TV c e ρ σ x) (ox : ObX σ x C fs) (hs : ∀ {Q : DT → Sg → Prop} {E : TX}, Q d σ → spec [x] σ Q E)
    (hab : ∀ env, attributeBase e f env (eval e env) = eval e env := by intro _; rfl) : TV c (.Attribute e f pos) ρ σ d := ⟨fun q => te_propX mt hk hc (ha.to ⟨⟨fs, ox⟩, hs q⟩) hab⟩
/-- o.m(e, ..), o perhaps one that changes -/
theorem te_meX [Calm c] (mt : DtM c.P c.w c.K c.mg c.base C m ps k spec) (hk : k ≤ c.k) (hc : Cls c.K C)
    (h : TE c o ρ σ (fun x σ1 => ∃ fs, ObX σ1 x C fs ∧ fs.lookup m = none ∧ TA c (a :: es) ρ σ1 (fun ds σ2 => spec (x :: ds) σ2 Q E) E) E)
    (heq : ∀ env, ∃ pl : Sem Bool, eval (.Call (.Attribute o m apos) (a :: es) [] pos) env = (do
      let ov ← eval o env
      standAt apos.atName
      let (f, first) ← holding [ov] (getMethod ov m pl)
      callWith pos f first (backTo pos (starEach (a :: es) env)) (backToKw pos (keywordEach [] env))))
    (he : ∀ env, starEach (a :: es) env = (false, eval a env) :: starEach es env := by intro _; rfl) (hpl : ∀ pos env, (backTo pos (starEach es env)).any (·.1) = false := by intro _ _; rfl) : TE c (.Call (.Attribute o m apos) (a :: es) [] pos) ρ σ Q E := ⟨fun X hX st H K w r xc Q' fo => fun pins s I => by
  obtain ⟨f, fd, hm, hb, F⟩ := mt
  have hX' := hX
  cases hX' with
  | mk _ k' Wx fl hpp hrH hcf hh hp' ht hf hN hU hst =>
    obtain rfl : hpp = none := ‹Calm _›.h
    obtain ⟨hcc, hr⟩ := hcf rfl
    obtain ⟨pl, heq⟩ := heq X.env
    refine PySem.W.methodCall_KW (pl := pl) (thn (h.run X hX st H K w r xc (fun v K1 => ∃ x fs σ1 H1, Gw H σ K H1 σ1 K1 ∧ Wd X.K H1 σ1 K1 ∧ Rep X.K H1 v x ∧ ObX σ1 x C fs ∧ fs.lookup m = none ∧ TA ⟨X.prog, X.w, X.K, X.mg, X.base, X.N, X.env.scope, k', Wx, fl, none⟩ (a :: es) ρ σ1 (fun ds σ2 => spec (x :: ds) σ2 Q E) E)
      (fun v x σ1 H1 K1 s1 w1 r1 ⟨fs, ox, l, hA⟩ => ⟨x, fs, σ1, H1, s1, w1, r1, ox, l, hA⟩) pins s I) fun u s1 ⟨v, K1, I1, rv, x, fs, σ1, H1, g1, w1, r1, ox, l, hA⟩ => ?_) heq
    obtain ⟨ad, dx, vs, rfl, ea, rf⟩ := ox.now w1 r1
    cases rv
    refine getmeth_ok I1 ea hc hm (rf.none l) ?_
    refine PySem.W.callWith_K (first := [.ref ad]) (h₀ := X.base) I.ok.mod.kin hm.kp (thn (hA.run X hX st H1 K1 w1 (r.same g1.b) (xc.next g1) (fun vs K2 => ∃ ds σ2 H2, Gw H1 σ1 K1 H2 σ2 K2 ∧ Wd X.K H2 σ2 K2 ∧ RepA X.K H2 vs ds ∧ spec (x :: ds) σ2 Q E)
      (fun vs ds σ2 H2 K2 s2 w2 r2 q => ⟨ds, σ2, H2, s2, w2, r2, q⟩) pos pins s1 I1) fun us s2 ⟨vs, K2, I2, rr, ds, σ2, H2, g2, w2, ra, q⟩ => ⟨I2.kIn, ?_⟩) (he _) (hpl _ _)
    exact runG (us := .ref ad :: us) (vs := .ref ad :: vs) F (hr.mono hk) hU ht hb I2 (.cons rfl rr) ⟨x :: ds, H2, σ2, Q, E, w2, .cons (Rep.same g2.b r1) ra, q, fun v d σ' H' K' s => fo v d σ' H' K' (g1.trans (g2.trans s)), fun cls dA x σ' H' K' s => xc cls dA x σ' H' K' (g1.trans (g2.trans s))⟩⟩
end
section
variable {c : Ct} {σ : Sg} {x y d : DT} {C : Addr} {fs gs : List (Str × DT)} {k : Nat} {ps : List Str} {spec : TSpec} {b : Bool} {n : Nat}
/-- len(x) -/
theorem pf_lenX [Calm c] (mt : DtM c.P c.w c.K c.mg c.base C "__len__" ps k spec) (hk : k + 1 ≤ c.k) (ox : ObX σ x C fs) (hn : n < 2 ^ 62) (hs : ∀ {Q : DT → Sg → Prop} {E : TX}, Q (.int (n : Int)) σ → spec [x] σ Q E) : POF c (.builtin "len") [x] σ (.int (n : Int)) := ⟨fun X hX H K w vs ra Q' q => by
  obtain ⟨f, fd, hm, hb, F⟩ := mt
  have hX' := hX
  cases hX' with
  | mk _ k' Wx fl hpp hrH hcf hh hp' ht hf hN hU hst =>
    obtain rfl : hpp = none := ‹Calm _›.h
    obtain ⟨hcc, hr⟩ := hcf rfl
    obtain ⟨v, rfl, rv⟩ := repA_one ra
    intro pins s st us I rr
    obtain ⟨u, rfl, ru⟩ := vals1 rr
    obtain ⟨ad, dx, vs, rfl, ea, rf⟩ := ox.now w rv
    cases ru
    obtain ⟨mA, O, _, _, _, _⟩ := ins_get I.hok ea
    obtain ⟨od, J, _⟩ := O.look
    obtain ⟨m, fr⟩ := I.fr
    refine PySem.W.len_K fr I.ok.mod.kin J hm.at_ hm.fn (wpAny_mono (runAt (Q := fun v K2 => v = .int (n : Int) ∧ Q' (.int (n : Int)) K2) (vs := [.ref ad]) F ((hr.mono hk).in1) hU rfl hb I (.cons rfl .nil) ⟨[x], H, σ, fun d' σ' => d' = .int (n : Int) ∧ σ' = σ, TX0, w, .cons rv .nil, hs ⟨rfl, rfl⟩, fun v d σ' H' K' s w' r ⟨e1, e2⟩ => by subst e1 e2; cases r; exact ⟨rfl, q _ H' K' s w' (.int _)⟩, fun _ _ _ _ _ _ _ _ _ z => z⟩) (fun r s2 z => ?_) fun _ _ z => z)
    obtain ⟨v2, K3, I3, rz, ez, q3⟩ := z
    subst ez
    obtain ⟨t, rfl⟩ := rz
    exact ⟨⟨by omega, by omega⟩, .int (n : Int), K3, I3.tok _, ⟨_, rfl⟩, q3⟩⟩
end
/-! ### list.count of texts -/
def eqS (k : Str) (v : Value) : Bool := match v with
  | .str n _ => n.cps.toList == k.cps.toList
  | _ => false
theorem eqS_gives {k : Str} {t : Tok} : ∀ {us : List Value} {ns : List Str}, StrsAre us ns → ∀ y ∈ us, MeetsSeq.EqGives y (.str k t) (eqS k y)
  | _, _, .nil => fun y hy => by cases hy
  | _, _, .cons n t2 h => fun y hy => (List.mem_cons.mp hy).elim (fun e => e ▸ SeqRoads2.EqGives.str n k t2 t) (eqS_gives h y)
theorem eqS_count {k : List Nat} : ∀ {us : List Value} {l : List (List Nat)}, StrsAre us (l.map S) → us.countP (eqS (S k)) = l.count k := by
  intro us l
  induction l generalizing us with
  | nil => intro h; cases h; rfl
  | cons x l ih =>
    intro h
    cases h with
    | cons n t h =>
      have e : eqS (S k) (.str (S x) t) = (x == k) := by
        show ((S x).cps.toList == (S k).cps.toList) = (x == k)
        rw [S_codes, S_codes]
      rw [List.countP_cons, List.count_cons, ih h, e]
def rCntS (K : PySem.W.Frag) : V → List V → Hp → VK → Prop := fun x xs H Q => ∃ (p : Addr) (l : List (List Nat)) (k : List Nat), x = .ref p ∧ xs = [.str (S k)] ∧ SqL K H p ((l.map S).map V.str) ∧ Q (.int (l.count k : Nat)) H
theorem mt_countS {X : Cx} : MtR X "list.count" (rCntS X.K) := by
  rintro pins s st H x xs v us Q I rx rxs ⟨p, l, k, rfl, rfl, hs, q⟩
  cases rx
  obtain ⟨u, rfl, t, rfl⟩ := rxs.one
  obtain ⟨its, rv, ⟨⟨oc, od, oda, osl⟩, n, a1, a2, a3, a4⟩, hlen⟩ := I.list hs
  simp only at a2 a4
  subst a2 a4
  have are := rv.strs
  refine call_meets PySem.F.slot_list_count ⟨_, a1, rfl⟩ PySem.F.entry_list_count (PySem.F.args_list_count_2 _ _)
    (SeqAt.list_countAt p its.toArray n od osl (.str (S k) t) (eqS (S k))) ⟨a1, fun y hy => (eqS_gives are y (by simpa using hy)).at _ _, .int (l.count k : Nat), H, I.tok _, ⟨s.toks, ?_⟩, q⟩
  have ec : its.toArray.toList.countP (eqS (S k)) = l.count k := eqS_count are
  show Value.int ((its.toArray.toList.countP (eqS (S k)) : Nat) : Int) s.toks = Value.int ((l.count k : Nat) : Int) s.toks
  rw [ec]
section
variable {c : Ct} {σ : Sg} {x : DT} {l : List (List Nat)} {k : List Nat}
theorem pm_count (hx : LsT σ x (l.map DT.str)) : POM c "list.count" x [.str k] σ (.int (l.count k : Nat)) := ⟨fun {Q} q => ⟨fun X hX H K w v vs rv ra Q' fo => by
  have hX' := hX
  cases hX'
  obtain ⟨u, rfl, ru⟩ := repA_one ra
  cases ru
  obtain ⟨b, ws, rfl, q1, r1⟩ := hx.now w rv
  rw [repA_strs r1] at q1
  have e1 : (l.map fun z => V.str (S z)) = (l.map S).map V.str := by rw [List.map_map]; rfl
  rw [e1] at q1
  exact cM_of mt_countS ⟨b, l, k, rfl, rfl, q1, fo _ _ σ H K Gw.refl w (.int _) q⟩⟩⟩
end
section
variable {c : Ct} {ρ : EnvT} {σ : Sg} {Q : DT → Sg → Prop} {E : TX} {o : Expr} {pos apos : Pos} {C : Addr} {m : Str} {k : Nat} {ps : List Str} {spec : TSpec}
/-- o.m() -/
theorem te_meX0 [Calm c] (mt : DtM c.P c.w c.K c.mg c.base C m ps k spec) (hk : k ≤ c.k) (hc : Cls c.K C)
    (h : TE c o ρ σ (fun x σ1 => ∃ fs, ObX σ1 x C fs ∧ fs.lookup m = none ∧ spec [x] σ1 Q E) E)
    (heq : ∀ env, ∃ pl : Sem Bool, eval (.Call (.Attribute o m apos) [] [] pos) env = (do
      let ov ← eval o env
      standAt apos.atName
      let (f, first) ← holding [ov] (getMethod ov m pl)
      callWith pos f first (backTo pos (starEach [] env)) (backToKw pos (keywordEach [] env)))) : TE c (.Call (.Attribute o m apos) [] [] pos) ρ σ Q E := ⟨fun X hX st H K w r xc Q' fo => fun pins s I => by
  obtain ⟨f, fd, hm, hb, F⟩ := mt
  have hX' := hX
  cases hX' with
  | mk _ k' Wx fl hpp hrH hcf hh hp' ht hf hN hU hst =>
    obtain rfl : hpp = none := ‹Calm _›.h
    obtain ⟨hcc, hr⟩ := hcf rfl
    obtain ⟨pl, heq⟩ := heq X.env
    refine PySem.W.methodCall_KW (pl := pl) (thn (h.run X hX st H K w r xc (fun v K1 => ∃ x fs σ1 H1, Gw H σ K H1 σ1 K1 ∧ Wd X.K H1 σ1 K1 ∧ Rep X.K H1 v x ∧ ObX σ1 x C fs ∧ fs.lookup m = none ∧ spec [x] σ1 Q E)
      (fun v x σ1 H1 K1 s1 w1 r1 ⟨fs, ox, l, hA⟩ => ⟨x, fs, σ1, H1, s1, w1, r1, ox, l, hA⟩) pins s I) fun u s1 ⟨v, K1, I1, rv, x, fs, σ1, H1, g1, w1, r1, ox, l, q⟩ => ?_) heq
    obtain ⟨ad, dx, vs, rfl, ea, rf⟩ := ox.now w1 r1
    cases rv
    refine getmeth_ok I1 ea hc hm (rf.none l) ?_
    refine PySem.W.callWith_K0 (first := [.ref ad]) I1.kIn hm.kp ?_
    exact runG (us := [.ref ad]) (vs := [.ref ad]) F (hr.mono hk) hU ht hb I1 (.cons rfl .nil) ⟨[x], H1, σ1, Q, E, w1, .cons r1 .nil, q, fun v d σ' H' K' s => fo v d σ' H' K' (g1.trans s), fun cls dA x σ' H' K' s => xc cls dA x σ' H' K' (g1.trans s)⟩⟩
end
end Y

/-! Yst: name, *rest = a tuple; defs with *args, called as methods. -/
namespace Y
open PySem PySem.Spec PyProof.Rows L2 L2H SX Z HotX
section
variable {prog : Program} {w : World} {A : Around} {E : Value → Shared → Prop} {s : Shared}
theorem starT1 {l : Addr} {items : Array Value} {x : Value} {xs : List Value} {Q : List Value → Shared → Prop} (hl : IsTup s.heap l items) (hh : A.handled = none) (hx : items.toList = x :: xs) (hz : items.size ≤ 16384)
    (h : ∀ h2 tk, Heap.ExtBut s.heap.objs.size s.heap h2 → Q [x, .ref h2.objs.size] { s with heap := h2.push { cls := .type "list", data := .seq xs.toArray }, toks := tk }) : wpAny (model prog w) A (unpackItems (.ref l) 2 (some 1)) Q E s := by
  have hlt : l ≠ s.heap.objs.size := by obtain ⟨o, ho, _⟩ := hl; exact Nat.ne_of_lt (Heap.lt_size ho)
  have hsz : items.size = xs.length + 1 := by rw [← Array.length_toList, hx, List.length_cons]
  unfold unpackItems
  refine wpAny_bind ?_
  unfold notIterableAtAll
  refine wpAny_bind (wpAny_specialOf hl.typeIs slot_tuple_iter.lookup ?_)
  refine wpAny_pure ?_
  simp only [Bool.false_eq_true, if_false]
  refine wpAny_bind (wpAny_holding (iter_tuple hl ?_))
  refine wpAny_bind (wpAny_holding (draw_tuple hlt 1 0 _ _ ⟨_, Heap.get?_push_size _ rfl, rfl, rfl⟩ (hl.push _) (by omega) fun h₁ hit₁ hs₁ => ?_))
  have hl₁ : IsTup h₁ l items := (hl.push _).extBut hs₁.extBut hlt
  rw [Nat.zero_add] at hit₁
  have hit₁' := hit₁
  obtain ⟨oi, hoi, _⟩ := hit₁'
  have hl₁' := hl₁
  obtain ⟨ol, hol, _⟩ := hl₁'
  rw [List.drop_zero, hx]
  show wpAny _ _ (if ([x] : List Value).length < 1 then _ else _) _ _ _
  rw [if_neg (by simp)]
  refine wpAny_bind (wpAny_holding (PySem.W.kun_collect (s := { s with heap := h₁ }) (T := "tuple_iterator") (.inr (.inr (.inr rfl))) (Walks.tuple (A := A.in1) hh s.heap.objs.size l hlt items) (fun j u st => st.1.typeIs) (k := 1) (by omega) ⟨hit₁, hl₁⟩ (Heap.lt_size hoi) (Heap.lt_size hol) (fun h₂ tk hk => ?_) (by rw [sizeLine_eq]; omega)))
  rw [hx]
  show wpAny _ _ (if xs.length < 0 then _ else _) _ _ _
  rw [if_neg (by omega)]
  show wpAny _ _ (newList (xs.take (xs.length - 0)) >>= fun d => pure ([x] ++ [d] ++ xs.drop (xs.length - 0))) _ _ _
  rw [Nat.sub_zero, List.take_length, List.drop_length]
  have he : Heap.ExtBut s.heap.objs.size s.heap h₂ := fun b o hb e => hk b o hb (hs₁.extBut b o hb (Heap.get?_push_of_some _ e))
  exact wpAny_bind (wpAny_newObj_type (wpAny_pure (h h₂ tk he)) (by show xs.toArray.size ≤ sizeLine; rw [List.size_toArray, sizeLine_eq]; omega))
end
def gStar (K : PySem.W.Frag) (t : TGs) : TG := fun v σ H Q => ∃ a x xs, v = .ref a ∧ SqT K H a (x :: xs) ∧ xs.length ≤ 16000 ∧ ∀ p, H p = none → t [x, .ref p] σ (upd H p (.lst xs)) Q
section
variable {X : Cx}
theorem pg_star {t1 t2 : Expr} {p3 pos : Pos} {k : Nat} {t : TGs} (hc : X.calm = true) (h : PGs X [t1, t2] t) (e1 : assignEach [t1, .Starred t2 p3] X.env = [(false, assign t1 X.env), (true, assign t2 X.env)])
    (e2 : assignEach [t1, t2] X.env = [(false, assign t1 X.env), (false, assign t2 X.env)]) : PG X (.Tuple [t1, .Starred t2 p3] k pos) (gStar X.K t) := by
  refine ⟨fun pins s σ H v u Q I r hw => ?_⟩
  obtain ⟨a, x, xs, rfl, hq, hl, hw⟩ := hw
  cases r
  obtain ⟨its, rv, ht, hz⟩ := I.tuple hq
  cases rv with
  | cons r1 rr =>
    rename_i u us
    have hu := rr.length
    rw [assign_Tuple]
    refine wpAny_bind (wpAny_standAt ?_)
    unfold unpack
    rw [e1]
    refine wpAny_bind (wpAny_holding (starT1 (x := u) (xs := us) ht (I.ok.hd hc) (by simp) (by rw [List.size_toArray, List.length_cons]; omega) fun h2 tk hx => ?_))
    have I1 : Inv X pins σ H { s with heap := h2, toks := tk } := I.kept (t' := tk) fun b o e => hx b o (Nat.ne_of_lt (Heap.lt_size e)) e
    have hn : H h2.objs.size = none := I1.hok.fresh (Nat.le_refl _)
    have I2 : Inv X pins σ (upd H h2.objs.size (.lst xs)) { s with heap := h2.push { cls := .type "list", data := .seq us.toArray }, toks := tk } := I1.laid (t' := tk) (a := h2.objs.size) (fun b o e => Heap.get?_push_of_some _ e) (Nat.le_refl _) ⟨by rw [sizeLine_eq]; omega, us, 0, rr, Heap.get?_push_size _ rfl⟩
    have z := h.run pins _ σ (upd H h2.objs.size (.lst xs)) [x, .ref h2.objs.size] [u, .ref h2.objs.size] Q I2 (.cons r1 (.cons rfl .nil)) (hw _ hn)
    rw [e2] at z
    exact z
end
section
variable {c : Ct} {ρ : EnvT} {σ : Sg} {D : EndT} {e : Expr} {x y : Str} {p1 p2 p3 pt pos : Pos} {k i j : Nat}
/-- x, *y = a tuple -/
theorem ts_star [Calm c] (hn : IsNs c [.Name x p1, .Name y p2] [i, j]) (h : TE c e ρ σ (fun d σ1 => ∃ a ds, d = .tup (a :: ds) ∧ ds.length ≤ 16000 ∧ D.nx ((ρ.set i (some a)).set j (some (.lst ds))) σ1) (xD D ρ)) (hs : ∀ env, swapsWithSole [.Tuple [.Name x p1, .Starred (.Name y p2) p3] k pt] e pos.line env = pure false := by intro _; rfl) (hw : ∀ env, swappedStores [.Tuple [.Name x p1, .Starred (.Name y p2) p3] k pt] e env = pure none := by intro _; rfl) : TS c (.Assign [.Tuple [.Name x p1, .Starred (.Name y p2) p3] k pt] e pos) ρ σ D := ⟨fun X hX st H K w re D' f => by
  have hX' := hX
  cases hX' with
  | mk _ k' Wx fa hpp hrH hcf hh hp' ht hf hN hU hst =>
    obtain rfl : hpp = none := ‹Calm _›.h
    obtain ⟨hc, hr⟩ := hcf rfl
    obtain ⟨q1, q2, q3⟩ := pgs_names hX hn
    refine cS_of (ps_asg cE_pe (pg_star hc q1 rfl rfl) (hs _) (hw _)) ?_
    refine h.run X hX st H K w re (f.xc re) _ fun v d σ1 H1 K1 g1 w1 rv ⟨a, ds, h1, h2, q⟩ => ?_
    subst h1
    cases rv with
    | tup hsq ra =>
      cases ra with
      | cons r1 rr =>
        rename_i ad va vs
        refine ⟨ad, va, vs, rfl, same_sqt w1.le hsq, by rw [rr.length]; exact h2, fun p hp => ?_⟩
        obtain ⟨s2, w2⟩ := w1.new (o := .lst vs) hp
        exact gNs_of [i, j] [va, .ref p] st rfl (f.nx _ _ _ _ _ (g1.trans s2) w2 (((re.same g1.b).same s2.b).set (r1.same s2.b) i |>.set (.lst upd_same (rr.same s2.b)) j) q)⟩
end

/-! ### defs with *args -/
theorem cxUpN {P : Program} {w : World} : StX.CXUp (L2N.CX P w) := by
  rintro outer s H s2 H2 E e s' un kp ho ⟨a, B, H', cls, d, ea, fl, hok, ub, na, os, ag, he⟩
  refine ⟨a, B, H', cls, d, ea, fl, hok, ⟨fun b o q n hb => ub.keep b o (kp b o q) (un.free b o q n (by simp)) hb, fun b o q hb => ub.slot b o (kp b o q) hb, fun b o q n => ub.free b o (kp b o q) (un.free b o q n (by simp)),
    fun b o q hb => ub.there b o (kp b o q) hb, fun b xs q => ub.tups b xs (un.tups b xs q), fun b o xs q => ub.frzs b o xs (un.frzs b o xs q), fun b ps q => ?_⟩, na, os.trans ho, ag, he⟩
  obtain ⟨m1, e1⟩ := un.tbls b ps q
  obtain ⟨m2, e2⟩ := ub.tbls b _ e1
  exact ⟨m1 ++ m2, by rw [e2, Array.append_assoc]⟩
structure FnV (P : Program) (w : World) (F : PySem.W.Frag) (mg : Str → Option Value) (base : Heap) (k : Nat) (f : Addr) (sp : Sp) : Prop where
  run : ∀ A : Around, Room k A → A.guards = some [] → ∀ outer s K, Env0 P w F mg base A outer s K → ∀ us vs, Vals vs us → ∀ Q E, sp vs K Q E →
    codeAny (model P w) A (.call (.ref f) ⟨us, []⟩) (CR (L2N.CX P w) outer P w K s Q E) s
/-- what binding gives: the first value, a tuple of the others -/
def BindsV (fd : FuncData) (p1 pv : Str) : Prop := ∀ (a : Value) (rest : List Value), bindArgs fd ⟨a :: rest, []⟩ = (newTuple rest >>= fun t => pure [(p1, a), (pv, t)])
section
variable {P : Program} {w : World} {F : PySem.W.Frag} {mg : Str → Option Value} {base : Heap} {k : Nat} {f : Addr} {fd : FuncData} {N : List Str} {p1 pv : Str} {spec : TSpec}
theorem fnV_ok {x qual : Str} {st : Stmt} (d : Fun F x qual st f fd) (S : FnScope N [p1, pv] (defScope st)) (hbind : BindsV fd p1 pv) (len : ∀ ds σ Q E, spec ds σ Q E → ∃ y rs, ds = y :: rs ∧ rs.length ≤ 1000)
    (hb : ∀ (y : DT) (rs : List DT) (σ : Sg) (Q : DT → Sg → Prop) (E : TX) (Wx : WX), spec (y :: rs) σ Q E → TBk (ctD P w F mg base N st k Wx) (defBody st) (startT N [y, .tup rs]) σ { nx := fun _ σ' => Q .non σ', rt := Q, ex := fun cls x _ σ' => E cls x σ' }) : FnV P w F mg base (k + 1) f (spT F spec) := by
  obtain ⟨oc, od, kV, doc, pm, an, cdv, ct, osl, rfl, lk, hcd⟩ := d.ex
  refine ⟨fun A hr hG outer s K e0 us vs r Q E h => ?_⟩
  obtain ⟨ds, H, σ, Qd, Ed, wd, ra, h, qd, xd⟩ := h
  obtain ⟨y, rs, rfl, hrs⟩ := len _ _ _ _ h
  cases ra with
  | cons ry rr =>
    rename_i v vr
    cases r with
    | cons rv1 rvr =>
      rename_i u ur
      have hA := hr.hd
      have hl2 : ur.length ≤ sizeLine := by rw [← rvr.length, rr.length, sizeLine_eq]; omega
      have hz : vr.length ≤ sizeLine := by rw [rr.length, sizeLine_eq]; omega
      have hn : K s.heap.objs.size = none := e0.hok.fresh (Nat.le_refl _)
      have KX : F.In s.heap := e0.mod.kin.keeps fun b o e => (e0.bs b o e).1
      refine codeAny_call_function hr.depth (KX _ _ lk) rfl S.co S.gen rfl (PySem.W.codeRec_of KX hcd) ?_
      rw [hbind]
      refine wpAny_bind (wpAny_newTuple (wpAny_pure ?_) hl2)
      have new : ObjOk P w (upd K s.heap.objs.size (.tup vr)) (s.heap.push ({ cls := .type "tuple", data := .seq ur.toArray } : Obj)) s.heap.objs.size (.tup vr) := ⟨hz, ur, rvr, ⟨_, Heap.get?_push_size _ rfl, rfl, _, rfl⟩⟩
      have un := StX.un_laid (fs := frs outer) (s := s) (o := ({ cls := .type "tuple", data := .seq ur.toArray } : Obj)) (u := .tup vr) hn
      have e2 := StX.env0_laid e0 new
      have hx := fun e s' => cxUpN (P := P) (w := w) outer s K { s with heap := s.heap.push ({ cls := .type "tuple", data := .seq ur.toArray } : Obj) } (upd K s.heap.objs.size (.tup vr)) E e s' un (fun b o q => Heap.get?_push_of_some _ q) rfl
      have lim := e0.mod.nolimit.keeps (h' := s.heap.push ({ cls := .type "tuple", data := .seq ur.toArray } : Obj)) fun a o z => Heap.get?_push_of_some _ (e0.bs a o z).1
      obtain ⟨s2, w2⟩ := wd.new (o := .tup vr) hn
      generalize hpT : s.heap.objs.size = pT at *
      generalize hs2 : ({ s with heap := s.heap.push ({ cls := .type "tuple", data := .seq ur.toArray } : Obj) } : Shared) = sT at *
      have ho : sT.os = s.os := by rw [← hs2]
      have un' : Un (frs outer) [] K (upd K pT (.tup vr)) s.heap sT.heap := by rw [← hs2]; exact un
      have lim' : sT.heap.NoLimit := by rw [← hs2]; exact lim
      refine wpAny_newFunctionEnv_cells (s := sT) S.kind (bind_kinds (us := [u, .ref pT]) S) fun env he s1 y1 => ?_
      subst he
      have hsp : TBk (ctD P w F mg base N st k (fun cls d _ H => E cls d H)) (defBody st) (startT N [y, .tup rs]) σ { nx := fun _ σ' => Qd .non σ', rt := Qd, ex := fun cls x _ σ' => Ed cls x σ' } := hb y rs σ Qd Ed _ h
      have ra2 : RepA F (upd _ pT (.tup vr)) [v, .ref pT] [y, .tup rs] := .cons (ry.same s2.b) (.cons (.tup (SqT.of upd_same) (rr.same s2.b)) .nil)
      have hr' := hr.deeper (envOfC qual (defScope st) sT.heap.objs.size f cdv)
      have I0 : Inv (cxC none P w F mg base N qual (defScope st) f cdv A outer sT (upd K pT (.tup vr)) E) [] (start N [v, .ref pT]) (upd K pT (.tup vr)) s1 := inv_start (CX := L2N.CX P w) (E := E) S hA e2 rfl (.cons rv1 (.cons rfl .nil)) y1
      refine ⟨lim'.keeps y1.toInCall.keep, codeAny_func (wpAny_mono (cB_pss.run [] s1 (start N [v, .ref pT]) (upd K pT (.tup vr)) { nx := fun _ K' => Q .non K', rt := Q } I0 ?_) (fun fl s3 z => ?_) fun e' s3 z => ?_)⟩
      · refine hsp.run (cxC none P w F mg base N qual (defScope st) f cdv A outer sT (upd K pT (.tup vr)) E) ?_ _ _ _ w2 ?_ _ ⟨fun ρ' σ' st' H' K' g w' _ e => qd _ _ σ' H' K' (s2.trans g) w' .non e, fun v d σ' H' K' g w' rv e => qd v d σ' H' K' (s2.trans g) w' rv e, fun _ _ _ _ _ _ _ _ e => e.elim, fun _ _ _ _ _ _ _ _ e => e.elim, fun cls dA z ρ' σ' st' H' K' g w' _ xr e => xd cls dA z σ' H' K' (s2.trans g) w' xr e⟩
        · exact Con.mk (cxC none P w F mg base N qual (defScope st) f cdv A outer sT (upd K pT (.tup vr)) E) k _ true none (roomH_of hr') (fun e => ⟨rfl, hr'⟩) (fun p e => nomatch e) (passes_of rfl) (L2N.takes_of rfl rfl rfl rfl) (fun _ _ => rfl) S.nd hG (fun _ => ⟨rfl, rfl, rfl⟩)
        · exact renv_start ra2 _
      · match fl, z with
        | .ret u', ⟨v', _, K2, J2, r2, q2⟩ => exact ⟨v', K2, J2.os.trans ho, J2.bare, un'.trans J2.base, J2.hok, r2, q2⟩
        | .next, ⟨_, K2, J2, q2⟩ => exact ⟨.non, K2, J2.os.trans ho, J2.bare, un'.trans J2.base, J2.hok, rfl, q2⟩
        | .brk, ⟨_, _, _, q2⟩ => exact q2.elim
        | .cont, ⟨_, _, _, q2⟩ => exact q2.elim
      · exact wpAny_mono z (fun _ s4 z => hx e' s4 z) fun e4 s4 z => hx e4 s4 z
end
section
variable {X : Cx} {W : WX} {k : Nat} {f : Addr} {sp : Sp}
theorem runVc {pins : List (Addr × Obj)} {st : L2.St} {K : Hp} {s : Shared} {Q : VK} {us : List Value} {vs : List V}
    (F : FnV X.prog X.w X.K X.mg X.base k f sp) (hr : Room k X.A) (hG : X.A.guards = some []) (tk : L2N.Takes X W) (I : Inv X pins st K s) (r : Vals vs us) (h : sp vs K Q (WE W st)) :
    codeAny (model X.prog X.w) X.A (.call (.ref f) ⟨us, []⟩) (fun r s' => match r with | .ok (.ret v) => EP X pins st Q v s' | .ok _ => False | .error e => X.xe e s') s := by
  refine codeAny_mono (F.run X.A hr hG X.stack s K I.env0 us vs r Q _ h) fun res s2 z => ?_
  match res, z with
  | .error e, z => exact L2N.passAt tk st pins K s e s2 I z
  | .ok (.ret u), z => exact I.after z
  | .ok .next, z => exact z.elim
  | .ok .brk, z => exact z.elim
  | .ok .cont, z => exact z.elim
theorem runV {pins : List (Addr × Obj)} {st : L2.St} {K : Hp} {s : Shared} {Q : VK} {us : List Value} {vs : List V}
    (F : FnV X.prog X.w X.K X.mg X.base k f sp) (hr : Room k X.A) (hG : X.A.guards = some []) (tk : L2N.Takes X W) (I : Inv X pins st K s) (r : Vals vs us) (h : sp vs K Q (WE W st)) :
    wpAny (model X.prog X.w) X.A (call (.ref f) us) (EP X pins st Q) X.xe s := wpAny_call (runVc F hr hG tk I r h)
end
/-- a method with *args -/
def DtMV (P : Program) (w : World) (F : PySem.W.Frag) (mg : Str → Option Value) (base : Heap) (C : Addr) (m : Str) (k : Nat) (spec : TSpec) : Prop := ∃ f, BMeth F C m f ∧ FnV P w F mg base k f (spT F spec)
section
variable {c : Ct} {ρ : EnvT} {σ : Sg} {Q : DT → Sg → Prop} {E : TX} {a o : Expr} {es : List Expr} {pos apos p1 p2 : Pos} {C : Addr} {m x : Str} {k : Nat} {spec : TSpec} {ds : List DT}
/-- o.m(e, ..), m with *args -/
theorem te_meV [Calm c] (mt : DtMV c.P c.w c.K c.mg c.base C m k spec) (hk : k ≤ c.k) (hc : Cls c.K C)
    (h : TE c o ρ σ (fun x σ1 => ∃ fs, ObX σ1 x C fs ∧ fs.lookup m = none ∧ TA c (a :: es) ρ σ1 (fun ds σ2 => spec (x :: ds) σ2 Q E) E) E)
    (heq : ∀ env, ∃ pl : Sem Bool, eval (.Call (.Attribute o m apos) (a :: es) [] pos) env = (do
      let ov ← eval o env
      standAt apos.atName
      let (f, first) ← holding [ov] (getMethod ov m pl)
      callWith pos f first (backTo pos (starEach (a :: es) env)) (backToKw pos (keywordEach [] env))))
    (he : ∀ env, starEach (a :: es) env = (false, eval a env) :: starEach es env := by intro _; rfl) (hpl : ∀ pos env, (backTo pos (starEach es env)).any (·.1) = false := by intro _ _; rfl) : TE c (.Call (.Attribute o m apos) (a :: es) [] pos) ρ σ Q E := ⟨fun X hX st H K w r xc Q' fo => fun pins s I => by
  obtain ⟨f, bm, F⟩ := mt
  have hm := bm.mt
  have hX' := hX
  cases hX' with
  | mk _ k' Wx fl hpp hrH hcf hh hp' ht hf hN hU hst =>
    obtain rfl : hpp = none := ‹Calm _›.h
    obtain ⟨hcc, hr⟩ := hcf rfl
    obtain ⟨pl, heq⟩ := heq X.env
    refine PySem.W.methodCall_KW (pl := pl) (thn (h.run X hX st H K w r xc (fun v K1 => ∃ x fs σ1 H1, Gw H σ K H1 σ1 K1 ∧ Wd X.K H1 σ1 K1 ∧ Rep X.K H1 v x ∧ ObX σ1 x C fs ∧ fs.lookup m = none ∧ TA ⟨X.prog, X.w, X.K, X.mg, X.base, X.N, X.env.scope, k', Wx, fl, none⟩ (a :: es) ρ σ1 (fun ds σ2 => spec (x :: ds) σ2 Q E) E)
      (fun v x σ1 H1 K1 s1 w1 r1 ⟨fs, ox, l, hA⟩ => ⟨x, fs, σ1, H1, s1, w1, r1, ox, l, hA⟩) pins s I) fun u s1 ⟨v, K1, I1, rv, x, fs, σ1, H1, g1, w1, r1, ox, l, hA⟩ => ?_) heq
    obtain ⟨ad, dx, vs, rfl, ea, rf⟩ := ox.now w1 r1
    cases rv
    refine getmeth_ok I1 ea hc hm (rf.none l) ?_
    refine PySem.W.callWith_K (first := [.ref ad]) (h₀ := X.base) I.ok.mod.kin hm.kp (thn (hA.run X hX st H1 K1 w1 (r.same g1.b) (xc.next g1) (fun vs K2 => ∃ ds σ2 H2, Gw H1 σ1 K1 H2 σ2 K2 ∧ Wd X.K H2 σ2 K2 ∧ RepA X.K H2 vs ds ∧ spec (x :: ds) σ2 Q E)
      (fun vs ds σ2 H2 K2 s2 w2 r2 q => ⟨ds, σ2, H2, s2, w2, r2, q⟩) pos pins s1 I1) fun us s2 ⟨vs, K2, I2, rr, ds, σ2, H2, g2, w2, ra, q⟩ => ⟨I2.kIn, ?_⟩) (he _) (hpl _ _)
    exact runV (us := .ref ad :: us) (vs := .ref ad :: vs) F (hr.mono hk) hU ht I2 (.cons rfl rr) ⟨x :: ds, H2, σ2, Q, E, w2, .cons (Rep.same g2.b r1) ra, q, fun v d σ' H' K' s => fo v d σ' H' K' (g1.trans (g2.trans s)), fun cls dA x σ' H' K' s => xc cls dA x σ' H' K' (g1.trans (g2.trans s))⟩⟩
/-- o.m(), m with *args -/
theorem te_meV0 [Calm c] (mt : DtMV c.P c.w c.K c.mg c.base C m k spec) (hk : k ≤ c.k) (hc : Cls c.K C)
    (h : TE c o ρ σ (fun x σ1 => ∃ fs, ObX σ1 x C fs ∧ fs.lookup m = none ∧ spec [x] σ1 Q E) E)
    (heq : ∀ env, ∃ pl : Sem Bool, eval (.Call (.Attribute o m apos) [] [] pos) env = (do
      let ov ← eval o env
      standAt apos.atName
      let (f, first) ← holding [ov] (getMethod ov m pl)
      callWith pos f first (backTo pos (starEach [] env)) (backToKw pos (keywordEach [] env)))) : TE c (.Call (.Attribute o m apos) [] [] pos) ρ σ Q E := ⟨fun X hX st H K w r xc Q' fo => fun pins s I => by
  obtain ⟨f, bm, F⟩ := mt
  have hm := bm.mt
  have hX' := hX
  cases hX' with
  | mk _ k' Wx fl hpp hrH hcf hh hp' ht hf hN hU hst =>
    obtain rfl : hpp = none := ‹Calm _›.h
    obtain ⟨hcc, hr⟩ := hcf rfl
    obtain ⟨pl, heq⟩ := heq X.env
    refine PySem.W.methodCall_KW (pl := pl) (thn (h.run X hX st H K w r xc (fun v K1 => ∃ x fs σ1 H1, Gw H σ K H1 σ1 K1 ∧ Wd X.K H1 σ1 K1 ∧ Rep X.K H1 v x ∧ ObX σ1 x C fs ∧ fs.lookup m = none ∧ spec [x] σ1 Q E)
      (fun v x σ1 H1 K1 s1 w1 r1 ⟨fs, ox, l, hA⟩ => ⟨x, fs, σ1, H1, s1, w1, r1, ox, l, hA⟩) pins s I) fun u s1 ⟨v, K1, I1, rv, x, fs, σ1, H1, g1, w1, r1, ox, l, q⟩ => ?_) heq
    obtain ⟨ad, dx, vs, rfl, ea, rf⟩ := ox.now w1 r1
    cases rv
    refine getmeth_ok I1 ea hc hm (rf.none l) ?_
    refine PySem.W.callWith_K0 (first := [.ref ad]) I1.kIn hm.kp ?_
    exact runV (us := [.ref ad]) (vs := [.ref ad]) F (hr.mono hk) hU ht I1 (.cons rfl .nil) ⟨[x], H1, σ1, Q, E, w1, .cons r1 .nil, q, fun v d σ' H' K' s => fo v d σ' H' K' (g1.trans s), fun cls dA x σ' H' K' s => xc cls dA x σ' H' K' (g1.trans s)⟩⟩
/-- o.m( *x), x a name that holds a tuple -/
theorem te_meS [Calm c] (mt : DtMV c.P c.w c.K c.mg c.base C m k spec) (hk : k ≤ c.k) (hc : Cls c.K C) (hx : lkT c.N ρ x = some (.tup ds)) (hv : visB c.sc x = true)
    (h : TE c o ρ σ (fun y σ1 => ∃ fs, ObX σ1 y C fs ∧ fs.lookup m = none ∧ spec (y :: ds) σ1 Q E) E) (hbase : ∀ env, attributeBase o m env (eval o env) = eval o env := by intro _; rfl)
    (hd : (x == ("__debug__" : Str)) = false := by decide) (hcd : (x == ("__classdict__" : Str)) = false := by decide) : TE c (.Call (.Attribute o m apos) [.Starred (.Name x p1) p2] [] pos) ρ σ Q E := ⟨fun X hX st H K w r xc Q' fo => fun pins s I => by
  obtain ⟨f, bm, F⟩ := mt
  have hX' := hX
  cases hX' with
  | mk _ k' Wx fl hpp hrH hcf hh hp' ht hf hN hU hst =>
    obtain rfl : hpp = none := ‹Calm _›.h
    obtain ⟨hcc, hr⟩ := hcf rfl
    refine starcall_of (hbase _) (thn (h.run X hX st H K w r xc (fun v K1 => ∃ y fs σ1 H1, Gw H σ K H1 σ1 K1 ∧ Wd X.K H1 σ1 K1 ∧ Rep X.K H1 v y ∧ ObX σ1 y C fs ∧ fs.lookup m = none ∧ spec (y :: ds) σ1 Q E)
      (fun v x σ1 H1 K1 s1 w1 r1 ⟨fs, ox, l, hA⟩ => ⟨x, fs, σ1, H1, s1, w1, r1, ox, l, hA⟩) pins s I) fun u s1 ⟨v, K1, I1, rv, y, fs, σ1, H1, g1, w1, r1, ox, l, q⟩ => ?_)
    obtain ⟨ad, dx, vs, rfl, ea, rf⟩ := ox.now w1 r1
    cases rv
    refine getbound_ok I1 ea hc bm (rf.none l) fun q1 s2 hq1 I2 => ?_
    refine PySem.W.ks_call (P := PySem.W.MethP X.K q1 f (.ref ad)) rfl (PySem.W.keeps_M bm.fi) (PySem.W.ks_lone ?_)
    have w2 : Wd X.K H1 σ1 (upd K1 q1 (.met f ad)) := w1.push hq1
    have g2 : Gw H1 σ1 K1 H1 σ1 (upd K1 q1 (.met f ad)) := Gw.push hq1
    unfold lkT at hx
    split at hx
    · next hl =>
      split at hx
      · next e =>
        cases hx
        obtain ⟨vt, e1, e2⟩ := r.get _ _ e
        have ha := pe_var (X := X) (x := x) (i := X.N.idxOf x) (pos := p1) (by rw [List.getElem?_eq_getElem hl, List.getElem_idxOf]) (visB_vis hv) hd hcd
        obtain ⟨b, vs2, rfl, hsq, ra⟩ : ∃ b vs2, vt = .ref b ∧ SqT X.K H b vs2 ∧ RepA X.K H vs2 ds := by
          cases e2 with
          | tup hsq ra => exact ⟨_, _, rfl, hsq, ra⟩
        refine thn (ha.run pins s2 st _ (fun y H2 => y = .ref b ∧ H2 = upd K1 q1 (.met f ad)) I2 ⟨_, e1, rfl, rfl⟩) fun v s3 ⟨y', K2, I3, ry, ey, eK⟩ => ?_
        subst ey eK
        obtain rfl : v = Value.ref b := ry
        have hT : SqT X.K (upd K1 q1 (.met f ad)) b vs2 := same_sqt w2.le (same_sqt g1.b hsq)
        refine star_tup I3 hT fun us s4 I4 rv => ⟨met_P I4 upd_same, ?_⟩
        exact wpAny_call (PySem.W.method_call (met_P I4 upd_same).1 (runVc (us := Value.ref ad :: us) (vs := V.ref ad :: vs2) F (hr.mono hk) hU ht I4 (.cons rfl rv) ⟨y :: ds, H1, σ1, Q, E, w2, .cons r1 (ra.same g1.b), q, fun v d σ' H' K' s => fo v d σ' H' K' (g1.trans (g2.trans s)), fun cls dA x σ' H' K' s => xc cls dA x σ' H' K' (g1.trans (g2.trans s))⟩))
      · cases hx
    · cases hx⟩
end
end Y

/-! Ysl: sum(lists, []); k in a list of texts; d.clear(); a dict comprehension that is a cell. -/
namespace Y
open PySem PySem.Spec PyProof.Rows L2 L2H SX Z HotX
theorem args_sum2 (a b : Value) : argsOk "sum" ⟨[a, b], []⟩ := by unfold argsOk; kernel_rfl
abbrev IsL0 (h : Heap) (a : Addr) (items : Array Value) (n : Nat) : Prop := h.get? a = some { cls := .type "list", data := .seq items n }
def catN (cont : Nat → Array Value) (b : Array Value) : Nat → Array Value
  | 0 => b
  | i + 1 => catN cont b i ++ cont i
section
variable {prog : Program} {w : World} {A : Around} {R : Result → Shared → Prop} {I ax : Addr} {items : Array Value}
theorem sum_loopL (hh : A.handled = none) (hne : ax ≠ I) (S : Addr) (hSI : S ≠ I) (hSa : S ≠ ax) (cont : Nat → Array Value) (b0 : Array Value) (s0 : Shared) (hIs : s0.heap.objs.size ≤ I) (hI0 : s0.heap.get? I = none) (hS0 : s0.heap.get? S = none)
    (hp : ∀ j v, items[j]? = some v → ∃ b nb, v = .ref b ∧ IsL0 s0.heap b (cont j) nb) (hz : ∀ i, i ≤ items.size → (catN cont b0 i).size ≤ sizeLine) :
    ∀ (k i : Nat) (h : Heap) (tk : Nat) (T : Addr) (nT c : Nat), items.size - i = k → i ≤ items.size → h.IsListIter I ax i → h.IsList ax items → IsL0 h S #[.ref T] c → IsL0 h T (catN cont b0 i) nT → T ≠ S → T ≠ I → (i = 0 ∨ s0.heap.objs.size ≤ T) →
    (∀ b o, s0.heap.get? b = some o → h.get? b = some o) → (∀ h' tk' T' n', (∀ b o, s0.heap.get? b = some o → h'.get? b = some o) → IsL0 h' T' (catN cont b0 items.size) n' → (items.size = 0 ∨ s0.heap.objs.size ≤ T') → R (.ok (.ret (.ref T'))) { s0 with heap := h', toks := tk' }) →
    codeAny (model prog w) A (.builtin "sum.loop" ⟨[.ref I, .ref S, rawInt 2, rawInt 0], []⟩) R { s0 with heap := h, toks := tk } := by
  have W := (Walks.list (prog := prog) (w := w) (A := A.in1) hh I ax hne items).toS
  intro k
  induction k with
  | zero =>
    intro i h tk T nT c hk hi hit hax hS hT hTS hTI hnew kp hR
    have hin : i = items.size := by omega
    subst hin
    refine codeAny_builtin F.entry_sum_loop ?_
    rw [Around.under_plainId F.plain_sum_loop _]
    show wpAny _ A.in1 (seqItems? (.ref S) >>= _) _ _ _
    refine wpAny_bind (wpAny_seqItems hS rfl ?_)
    show wpAny _ A.in1 (tryCatch (pyNext (.ref I)) _ >>= _) _ _ _
    refine wpAny_bind (wpAny_tryCatch (W.done _ _ _ (show _ from ⟨hit, hax⟩) fun s' hm => ?_))
    obtain ⟨h', g', d', t', o'⟩ := s'
    obtain ⟨m1, m2, m3, m4, _⟩ := hm
    have m2 : g' = s0.gens := m2
    have m3 : d' = s0.drawn := m3
    have m4 : o' = s0.os := m4
    subst m2 m3 m4
    refine wpAny_pure (hR h' t' T nT (fun b o e => m1 b o (fun z => ?_) (kp b o e)) (m1 T _ (fun z => hTI (List.mem_singleton.mp z)) hT) hnew)
    rw [List.mem_singleton.mp z, hI0] at e
    cases e
  | succ k ih =>
    intro i h tk T nT c hk hi hit hax hS hT hTS hTI hnew kp hR
    have hlt : i < items.size := by omega
    refine codeAny_builtin F.entry_sum_loop ?_
    rw [Around.under_plainId F.plain_sum_loop _]
    show wpAny _ A.in1 (seqItems? (.ref S) >>= _) _ _ _
    refine wpAny_bind (wpAny_seqItems hS rfl ?_)
    show wpAny _ A.in1 (tryCatch (pyNext (.ref I)) _ >>= _) _ _ _
    refine wpAny_bind (wpAny_tryCatch (W.item i _ _ _ hlt (show _ from ⟨hit, hax⟩) fun v s' hP hst' hm => ?_))
    obtain ⟨h', g', d', t', o'⟩ := s'
    obtain ⟨m1, m2, m3, m4, _⟩ := hm
    have m2 : g' = s0.gens := m2
    have m3 : d' = s0.drawn := m3
    have m4 : o' = s0.os := m4
    subst m2 m3 m4
    obtain ⟨b, nb, rfl, hb⟩ := hp i v hP
    have kp' : ∀ b o, s0.heap.get? b = some o → h'.get? b = some o := fun b o e => m1 b o (fun z => by rw [List.mem_singleton.mp z, hI0] at e; cases e) (kp b o e)
    have hS' : IsL0 h' S #[.ref T] c := m1 S _ (fun z => hSI (List.mem_singleton.mp z)) hS
    have hT' : IsL0 h' T (catN cont b0 i) nT := m1 T _ (fun z => hTI (List.mem_singleton.mp z)) hT
    have hb' := kp' b _ hb
    obtain ⟨hit', hax'⟩ := hst'
    show wpAny _ A.in1 ((holding [Value.ref b] (binaryOp .Add (.ref T) (.ref b))).attempt >>= _) _ _ _
    have hz1 := hz (i + 1) hlt
    refine wpAny_bind (wpAny_attempt (wpAny_holding (PySem.P.add_list hT' hb' ?_ (by rw [← Array.size_append]; exact hz1))))
    show wpAny _ A.in1 (updateSeq S (fun _ => #[.ref h'.objs.size]) >>= _) _ _ _
    have q1 : IsL0 (h'.push { cls := .type "list", data := .seq (catN cont b0 i ++ cont i) }) S #[.ref T] c := Heap.get?_push_of_some _ hS'
    refine wpAny_bind (wpAny_updateSeq q1 rfl ?_)
    have q2 := Heap.get?_update_self (Obj.mapSeq fun _ => #[Value.ref h'.objs.size]) q1 rfl
    refine wpAny_bind (wpAny_letGo ?_)
    have ltS : S < h'.objs.size := Heap.lt_size hS'
    have ltI : I < h'.objs.size := by obtain ⟨o, ho, _⟩ := hit'; exact Heap.lt_size ho
    have sz : s0.heap.objs.size ≤ h'.objs.size := Nat.le_trans hIs (Nat.le_of_lt ltI)
    have oth : ∀ b o, b ≠ S → h'.get? b = some o → ((h'.push { cls := .type "list", data := .seq (catN cont b0 i ++ cont i) }).update S (Obj.mapSeq fun _ => #[Value.ref h'.objs.size]) |>.update S (Obj.mapSeq fun _ => #[Value.ref h'.objs.size])).get? b = some o := fun b o n e =>
      (Heap.get?_update_other _ _ (fun z : S = b => n z.symm)).trans ((Heap.get?_update_other _ _ (fun z : S = b => n z.symm)).trans (Heap.get?_push_of_some _ e))
    refine wpAny_bind (wpAny_updateSeq q2 rfl (wpAny_pure ⟨plainId_quiet F.plain_sum_loop _, ih (i + 1) _ t' h'.objs.size 0 _ (by omega) hlt (hit'.at fun o e => oth I o hSI.symm e) (hax'.at fun o e => oth ax o hSa.symm e) (Heap.get?_update_self _ q2 rfl) ?_ (Nat.ne_of_gt ltS) (Nat.ne_of_gt ltI) (.inr sz) (fun b o e => oth b o (fun z => by rw [z, hS0] at e; cases e) (kp' b o e)) hR⟩))
    exact (Heap.get?_update_other _ _ (Nat.ne_of_lt ltS)).trans ((Heap.get?_update_other _ _ (Nat.ne_of_lt ltS)).trans (Heap.get?_push_size _ rfl))
end
section
variable {prog : Program} {w : World} {A : Around} {E : Value → Shared → Prop} {s : Shared} {ax y : Addr} {items b0 : Array Value} {n0 : Nat}
theorem sum_lists (hh : A.handled = none) (hl : s.heap.IsList ax items) (hy : IsL0 s.heap y b0 n0) (cont : Nat → Array Value) (hp : ∀ j v, items[j]? = some v → ∃ b nb, v = .ref b ∧ IsL0 s.heap b (cont j) nb) (hz : ∀ i, i ≤ items.size → (catN cont b0 i).size ≤ sizeLine) {Q : Value → Shared → Prop}
    (h : ∀ h' tk' T' n', (∀ b o, s.heap.get? b = some o → h'.get? b = some o) → IsL0 h' T' (catN cont b0 items.size) n' → (items.size = 0 ∨ s.heap.objs.size ≤ T') → Q (.ref T') { s with heap := h', toks := tk' }) :
    wpAny (model prog w) A (call (.builtin "sum") [.ref ax, .ref y]) Q E s := by
  have hlt : ax < s.heap.objs.size := by obtain ⟨o, ho, _⟩ := hl; exact Heap.lt_size ho
  have hlty : y < s.heap.objs.size := Heap.lt_size hy
  refine call_function_tree F.kind_sum F.plain_sum F.entry_sum (args_sum2 _ _) ?_
  unfold Builtin.«sum»
  simp only [List.length_cons, List.length_nil]
  rw [if_neg (by decide)]
  refine wpAny_bind (wpAny_of_eq (show Builtin.Builtins.bindParams "sum" ["start"] 0 ⟨[.ref y], []⟩ = pure [some (.ref y)] from rfl) ?_)
  refine wpAny_bind (wpAny_pyIter_list hl ?_)
  have ty : ∀ h', (∀ b o, s.heap.get? b = some o → h'.get? b = some o) → Shared.TypeIs { s with heap := h' } (.ref y) "list" := fun h' k => ⟨_, k _ _ hy, rfl⟩
  have t1 := ty _ fun b o e => Heap.get?_push_of_some ({ cls := .type "list_iterator", data := .fields #[.ref ax, .int 0 0] } : Obj) e
  refine wpAny_bind (wpAny_pure ?_)
  simp only [List.forIn_cons, List.forIn_nil]
  refine wpAny_bind (wpAny_bind (wpAny_bind (wpAny_isInstance (T := "list") (b := false) t1 PySem.F.sub_list_str ?_)))
  simp only [Bool.false_eq_true, if_false]
  refine wpAny_pure (wpAny_bind (wpAny_bind (wpAny_isInstance (T := "list") (b := false) t1 PySem.F.sub_list_bytes ?_)))
  simp only [Bool.false_eq_true, if_false]
  refine wpAny_pure (wpAny_bind (wpAny_bind (wpAny_isInstance (T := "list") (b := false) t1 PySem.F.sub_list_bytearray ?_)))
  simp only [Bool.false_eq_true, if_false]
  refine wpAny_pure (wpAny_pure ?_)
  refine wpAny_bind (wpAny_newObj_type ?_)
  have nI : s.heap.get? s.heap.objs.size = none := Heap.get?_none_of_le (Nat.le_refl _)
  have sP : (s.heap.push ({ cls := .type "list_iterator", data := .fields #[.ref ax, .int 0 0] } : Obj)).objs.size = s.heap.objs.size + 1 := Heap.size_push _ _
  have nS : s.heap.get? (s.heap.objs.size + 1) = none := Heap.get?_none_of_le (Nat.le_succ _)
  have hit : (s.heap.push ({ cls := .type "list_iterator", data := .fields #[.ref ax, .int 0 0] } : Obj)).IsListIter s.heap.objs.size ax 0 := ⟨_, Heap.get?_push_size _ rfl, rfl, rfl⟩
  refine wpAny_pure ⟨plainId_quiet F.plain_sum_loop _, ?_⟩
  simp only [sP]
  refine sum_loopL (prog := prog) (w := w) (A := A) (I := s.heap.objs.size) (ax := ax) (items := items) hh (Nat.ne_of_lt hlt) (s.heap.objs.size + 1) (Nat.ne_of_gt (Nat.lt_succ_self _)) (Nat.ne_of_gt (Nat.lt_succ_of_lt hlt)) cont b0 s (Nat.le_refl _) nI nS hp hz items.size 0 _ _ y n0 0 rfl (Nat.zero_le _) (hit.at fun o e => Heap.get?_push_of_some _ e) (hl.at fun o e => Heap.get?_push_of_some _ (Heap.get?_push_of_some _ e)) ?_ (Heap.get?_push_of_some _ (Heap.get?_push_of_some _ hy)) (Nat.ne_of_lt (Nat.lt_succ_of_lt hlty)) (Nat.ne_of_lt hlty) (.inl rfl) (fun b o e => Heap.get?_push_of_some _ (Heap.get?_push_of_some _ e)) h
  have := Heap.get?_push_size (s.heap.push ({ cls := .type "list_iterator", data := .fields #[.ref ax, .int 0 0] } : Obj)) (o := ({ cls := .type "list", data := .seq ([.ref y] : List Value).toArray } : Obj)) rfl
  rw [sP] at this
  exact this
end

inductive LstsOf (H : Hp) : List V → List (List V) → Prop
  | nil : LstsOf H [] []
  | cons {b : Addr} {xs : List V} {ws : List V} {xss : List (List V)} : H b = some (.lst xs) → LstsOf H ws xss → LstsOf H (.ref b :: ws) (xs :: xss)
theorem lsts_raw {X : Cx} {pins : List (Addr × Obj)} {σ : L2.St} {H : Hp} {s : Shared} (I : Inv X pins σ H s) : ∀ {ws : List V} {xss : List (List V)} {us : List Value}, LstsOf H ws xss → Vals ws us →
    ∃ cs : List (Array Value), (∀ (j : Nat) (v : Value), us[j]? = some v → ∃ b nb, v = Value.ref b ∧ IsL0 s.heap b (cs[j]?.getD #[]) nb) ∧ cs.length = us.length ∧ Vals xss.flatten (cs.map Array.toList).flatten
  | _, _, _, .nil, .nil => ⟨[], (fun j v e => by rw [List.getElem?_nil] at e; cases e), rfl, .nil⟩
  | _, _, _, .cons hb h, .cons r rr => by
    obtain ⟨cs, h1, h2, h3⟩ := lsts_raw I h rr
    obtain ⟨_, its, n, r1, _, e⟩ := I.lstM hb
    cases r
    refine ⟨its.toArray :: cs, fun j v q => ?_, by rw [List.length_cons, List.length_cons, h2], ?_⟩
    · cases j with
      | zero =>
        obtain rfl : _ = v := Option.some.inj q
        exact ⟨_, n, rfl, e⟩
      | succ j => exact h1 j v q
    · rw [List.flatten_cons, List.map_cons, List.flatten_cons]
      exact r1.append h3
theorem catN_toList (cs : List (Array Value)) (b0 : Array Value) : ∀ i, (catN (fun j => cs[j]?.getD #[]) b0 i).toList = b0.toList ++ ((cs.take i).map Array.toList).flatten
  | 0 => by simp [catN]
  | i + 1 => by
    show (catN _ b0 i ++ _).toList = _
    rw [Array.toList_append, catN_toList cs b0 i, List.append_assoc]
    congr 1
    show _ ++ (cs[i]?.getD #[]).toList = _
    rcases Nat.lt_or_ge i cs.length with h | h
    · rw [List.take_succ, List.map_append, List.flatten_append, List.getElem?_eq_getElem h]
      simp
    · rw [List.take_of_length_le h, List.take_of_length_le (Nat.le_succ_of_le h), List.getElem?_eq_none h]
      simp
theorem catN_size (cs : List (Array Value)) (b0 : Array Value) (i : Nat) : (catN (fun j => cs[j]?.getD #[]) b0 i).size ≤ b0.size + ((cs.map Array.toList).flatten).length := by
  rw [← Array.length_toList, catN_toList, List.length_append, Array.length_toList]
  have : ((cs.take i).map Array.toList).flatten.length ≤ ((cs.map Array.toList).flatten).length := by
    conv => rhs; rw [← List.take_append_drop i cs, List.map_append, List.flatten_append, List.length_append]
    omega
  omega
def rSumL (K : PySem.W.Frag) : List V → Hp → VK → Prop := fun vs H Q => ∃ (a p : Addr) (ws ys : List V) (xss : List (List V)), vs = [V.ref a, V.ref p] ∧ H a = some (.lst ws) ∧ H p = some (.lst ys) ∧ LstsOf H ws xss ∧ ws ≠ [] ∧ ys.length + xss.flatten.length ≤ sizeLine ∧ ∀ q, H q = none → Q (.ref q) (upd H q (.lst (ys ++ xss.flatten)))
theorem cr_sumL {X : Cx} (hc : X.calm = true) : CallR X (.builtin "sum") (rSumL X.K) := by
  intro pins s σ H vs us Q I r h
  obtain ⟨a, p, ws, ys, xss, rfl, ha, hp, hl, hne, hz, q⟩ := h
  obtain ⟨z1, its, n, rv, ln, e⟩ := I.lstM ha
  obtain ⟨z2, its2, n2, rv2, ln2, e2⟩ := I.lstM hp
  obtain ⟨cs, c1, c2, c3⟩ := lsts_raw I hl rv
  obtain ⟨u, rfl, ru⟩ : ∃ u : List Value, us = u ∧ Vals [V.ref a, V.ref p] u := ⟨us, rfl, r⟩
  cases ru with
  | cons r1 rr =>
    cases rr with
    | cons r2 r3 =>
      cases r3
      cases r1
      cases r2
      have hw : its ≠ [] := fun z => hne (List.length_eq_zero_iff.mp (by rw [ln, z]; rfl))
      have hfl : (cs.map Array.toList).flatten.length = xss.flatten.length := c3.length.symm
      refine sum_lists (I.ok.hd hc) (ax := a) (y := p) (items := its.toArray) ⟨_, e, rfl, n, rfl⟩ e2 (fun j => cs[j]?.getD #[]) (fun j v q => c1 j v (by simpa using q)) (fun i _ => Nat.le_trans (catN_size cs _ i) (by rw [List.size_toArray, hfl, ← ln2]; exact hz)) fun h' tk' T' n' kp hT hnew => ?_
      have hT' : IsL0 h' T' (its2 ++ (cs.map Array.toList).flatten).toArray n' := by
        have e3 := catN_toList cs its2.toArray its.toArray.size
        rw [List.take_of_length_le (by rw [c2, List.size_toArray]; exact Nat.le_refl _)] at e3
        have e4 : catN (fun j => cs[j]?.getD #[]) its2.toArray its.toArray.size = (its2 ++ (cs.map Array.toList).flatten).toArray := by
          rw [← Array.toArray_toList (xs := catN _ _ _), e3]
        rw [← e4]
        exact hT
      have nw : s.heap.objs.size ≤ T' := hnew.resolve_left (fun z => hw (List.length_eq_zero_iff.mp (by simpa using z)))
      exact ⟨.ref T', _, I.laid (t' := tk') (o := .lst (ys ++ xss.flatten)) kp nw ⟨by rw [List.length_append]; exact hz, _, n', rv2.append c3, hT'⟩, rfl, q T' (I.hok.fresh nw)⟩
section
variable {c : Ct} {σ : Sg}
theorem lsts_rep {F : PySem.W.Frag} {H : Hp} : ∀ {ws : List V} {dss : List (List DT)}, RepA F H ws (dss.map DT.lst) → ∃ xss, LstsOf H ws xss ∧ RepA F H xss.flatten dss.flatten
  | [], [], .nil => ⟨[], .nil, .nil⟩
  | _ :: _, ds :: dss, .cons h t => by
    obtain ⟨xss, h1, h2⟩ := lsts_rep t
    cases h with
    | lst ha ra => exact ⟨_ :: xss, .cons ha h1, by rw [List.flatten_cons, List.flatten_cons]; exact ra.append h2⟩
/-- sum(lists, []) -/
theorem pf_sumL [Calm c] {dss : List (List DT)} (hne : dss ≠ []) (hz : dss.flatten.length ≤ 16777216) : POF c (.builtin "sum") [.lst (dss.map DT.lst), .lst []] σ (.lst dss.flatten) := ⟨fun X hX H K w vs r Q q => by
  have hc := con_calm hX
  have hX' := hX
  cases hX'
  cases r with
  | cons r1 rr =>
    cases rr with
    | cons r2 r3 =>
      cases r3
      cases r1 with
      | lst ha ra =>
        cases r2 with
        | lst hb rb =>
          cases rb
          obtain ⟨xss, h1, h2⟩ := lsts_rep ra
          have up : ∀ {ws : List V} {xss : List (List V)}, LstsOf H ws xss → LstsOf K ws xss := fun {ws xss} l => by
            induction l with
            | nil => exact .nil
            | cons hb _ ih => exact .cons (w.le _ _ hb) ih
          refine cF_of (cr_sumL hc) ⟨_, _, _, [], xss, rfl, w.le _ _ ha, w.le _ _ hb, up h1, ?_, by rw [h2.length, sizeLine_eq]; simpa using hz, fun p hp => ?_⟩
          · rename_i vs1 _ _
            intro z
            have := ra.length
            rw [z, List.length_map] at this
            exact hne (List.length_eq_zero_iff.mp this.symm)
          · obtain ⟨s2, w2⟩ := w.new (o := .lst ([] ++ xss.flatten)) hp
            exact q _ _ _ s2 w2 (.lst upd_same (h2.same s2.b))⟩
end

/-! ### k in a list of texts -/
theorem dec_S2 (z k : List Nat) : eqV (.str (S z)) (.str (S k)) = decide (z = k) := by
  show (S z == S k) = decide (z = k)
  by_cases h : z = k
  · subst h
    rw [decide_eq_true rfl]
    exact beq_self_eq_true _
  · rw [decide_eq_false h]
    refine Bool.eq_false_iff.mpr fun q => h ?_
    have := congrArg (fun y : Str => y.cps.toList) (eq_of_beq q)
    simpa [S_codes] using this
theorem inV_S (k : List Nat) : ∀ l : List (List Nat), inV (.str (S k)) (l.map fun z => V.str (S z)) = decide (k ∈ l)
  | [] => rfl
  | z :: l => by
    have e1 : inV (.str (S k)) ((z :: l).map fun z => V.str (S z)) = (eqV (.str (S z)) (.str (S k)) || inV (.str (S k)) (l.map fun z => V.str (S z))) := rfl
    have e2 : eqV (.str (S z)) (.str (S k)) = decide (z = k) := dec_S2 z k
    rw [e1, e2, inV_S k l]
    by_cases h : z = k
    · subst h; simp
    · have h' : ¬ k = z := fun q => h q.symm
      simp [h, h']
section
variable {c : Ct} {σ : Sg} {x : DT} {l : List (List Nat)} {k : List Nat}
theorem po_inT (hx : LsT σ x (l.map DT.str)) : PO2 c (compareOp .In) (.str k) x σ (.bl (decide (k ∈ l))) := ⟨fun X hX H K w v u rv ru Q q => by
  have hX' := hX
  cases hX'
  cases rv
  obtain ⟨a, ws, rfl, q1, r1⟩ := hx.now w ru
  rw [repA_strs r1] at q1
  refine cO_of op_in_seq ⟨a, _, rfl, .inl q1, rfl, ?_, ?_⟩
  · rw [List.all_eq_true]
    intro y hy
    obtain ⟨z, _, rfl⟩ := List.mem_map.mp hy
    rfl
  · have e : (if false = true then !inV (.str (S k)) (l.map fun z => V.str (S z)) else inV (.str (S k)) (l.map fun z => V.str (S z))) = decide (k ∈ l) := inV_S k l
    rw [e]
    exact q _ H K Gw.refl w (.bl _)⟩
end
/-! ### d.clear() -/
section
variable {c : Ct} {σ : Sg} {p : Addr} {kvs : List (DK × DT)} {P : DT → Sg → Prop}
theorem tm_clear (h : σ p = some (.dct kvs)) (q : P .non (su σ p (.dct []))) : TOM c "dict.clear" (.ref p) [] σ P := ⟨fun X hX H K w v vs rv ra Q' fo => by
  cases rv
  cases ra
  obtain ⟨us, e, r1⟩ := w.on p _ h
  refine cM_of mtd_clear ⟨p, us, rfl, rfl, e, ?_⟩
  exact fo _ _ _ H _ (Gw.write h) (w.write h (c' := .dct []) ⟨_, upd_same, .nil⟩) .non q⟩
end
/-! ### a dict comprehension that is a cell -/
section
variable {c : Ct} {ρ : EnvT} {σ : Sg} {tg iter kx vx : Expr} {scope : Scope} {pos : Pos} {own : List (Str × Nat)} {t : TgS} {Q : DT → Sg → Prop} {E : TX}
theorem tc_dc [Calm c] {α : Type} {l : List α} {g vf : α → DT} {kf : α → DK} {ρ' : α → EnvT} (htg : TgOk (c.blk scope) tg t) (hb : blkC c.N c.sc scope own = true) (hsub : ∀ j ∈ t.slots, j ∈ own.map (·.2)) (hi : TVI c tg iter ρ σ (l.map g)) (hn : l.length ≤ 1000000)
    (hst : ∀ a ∈ l, stT t (g a) (wipeT ρ (own.map (·.2))) = some (ρ' a)) (hs : ∀ a ∈ l, TV (c.blk scope) kx (ρ' a) σ (dk (kf a)) ∧ TV (c.blk scope) vx (ρ' a) σ (vf a)) (hnd : (l.map kf).Nodup) (q : ∀ D, σ D = none → Q (.ref D) (su σ D (.dct (l.map fun a => (kf a, vf a))))) (hf : ∀ env x, foldedSetIterable iter env x = pure x := by intro _ _; rfl) :
    TE c (.DictComp kx vx [⟨tg, iter, [], 0⟩] scope pos) ρ σ Q E := te_dcC htg hb hsub (hi.to ⟨by rw [List.length_map]; exact hn, fun i acc σ2 => σ2 = σ ∧ acc = (l.take i).map fun a => (kf a, vf a), ⟨rfl, by simp⟩, fun i d acc σ2 hd ⟨e1, e2⟩ => by
    subst e1 e2
    rw [List.getElem?_map] at hd
    obtain ⟨a, ha, rfl⟩ := Option.map_eq_some_iff.mp hd
    have hm : a ∈ l := List.mem_of_getElem? ha
    have hlt : i < l.length := (List.getElem?_eq_some_iff.mp ha).1
    have tk : l.take (i + 1) = l.take i ++ [a] := by rw [List.take_succ, ha]; rfl
    refine ⟨ρ' a, hst a hm, ?_⟩
    have hnk : kf a ∉ ((l.take i).map fun a => (kf a, vf a)).map (·.1) := by
      rw [List.map_map]
      intro hk
      have q1 : (l.map kf)[i]? = some (kf a) := by rw [List.getElem?_map, ha]; rfl
      obtain ⟨j, hj⟩ := List.mem_iff_getElem?.mp hk
      rw [List.getElem?_map, List.getElem?_take] at hj
      split at hj
      · next hji =>
        have q2 : (l.map kf)[j]? = some (kf a) := by rw [List.getElem?_map]; exact hj
        have := (List.getElem?_inj (by rw [List.length_map]; omega) hnd).mp (q2.trans q1.symm)
        omega
      · cases hj
    show TE _ _ _ _ _ _
    exact (hs a hm).1.to ⟨kf a, rfl, (hs a hm).2.to ⟨rfl, by rw [putT_new hnk, tk, List.map_append]; rfl⟩⟩, fun D acc σ2 hD _ ⟨e1, e2⟩ => by
    subst e1 e2
    rw [List.take_of_length_le (by rw [List.length_map]; exact Nat.le_refl _)]
    exact q D hD⟩) hf
end
end Y

/-! Ymv: a < b <= c < d. -/
namespace Y
open PySem PySem.Spec PyProof.Rows L2 L2H SX Z HotX
def tChain3 (r r' r'' : R2) (ta tb tc td : L2.TE) : L2.TE := fun σ H Q => ta σ H fun x H1 => tb σ H1 fun y H2 => r x y H2 fun z H3 => z = .bl true ∧ tc σ H3 fun w H4 => r' y w H4 fun z' H5 => z' = .bl true ∧ td σ H5 fun v H6 => r'' w v H6 Q
theorem pe_chain3 {X : Cx} {a b c d : Expr} {ta tb tc td : L2.TE} {op op' op'' : CmpOp} {r r' r'' : R2} {pos : Pos} (ho : OpR X (compareOp op) r) (ho' : OpR X (compareOp op') r') (ho'' : OpR X (compareOp op'') r'') (ha : PE X a ta) (hb : PE X b tb) (hc : PE X c tc) (hd : PE X d td)
    (hm : lastMarks [op, op', op''] [b, c, d] = false) : PE X (.Compare a [op, op', op''] [b, c, d] pos) (tChain3 r r' r'' ta tb tc td) := by
  refine ⟨fun pins s σ H Q I h => ?_⟩
  refine Compare_chain (thn (ha.run pins s σ H _ I h) fun v s1 ⟨x, H1, I1, r1, q1⟩ => chain_link (thn (hb.run pins s1 σ H1 _ I1 q1) fun u s2 ⟨y, H2, I2, r2, q2⟩ =>
    thn (ho pins s2 σ H2 x y v u _ I2 r1 r2 q2) fun d s3 ⟨z, H3, I3, r3, e, q3⟩ => ?_)) hm
  subst e
  cases r3
  refine wpAny_truthy_bool ?_
  refine ite_tt (chain_link (thn (hc.run pins s3 σ H3 _ I3 q3) fun w' s4 ⟨z', H4, I4, r4, q4⟩ => thn (ho' pins s4 σ H4 y z' u w' _ I4 r2 r4 q4) fun d' s5 ⟨z2, H5, I5, r5, e2, q5⟩ => ?_))
  subst e2
  cases r5
  refine wpAny_truthy_bool ?_
  exact ite_tt (chain_last (thn (hd.run pins s5 σ H5 _ I5 q5) fun w2 s6 ⟨z3, H6, I6, r6, q6⟩ => ho'' pins s6 σ H6 z' z3 w' w2 Q I6 r4 r6 q6))
section
variable {c : Ct} {ρ : EnvT} {σ : Sg} {a b : Expr} {x y z v : DT} {pos : Pos}
/-- a < b <= d < e, all but the last true -/
theorem tv_chain3 {d e : Expr} {o o' o'' : CmpOp} {s : Bool} (ha : TV c a ρ σ x) (hb : TV c b ρ σ y) (hd : TV c d ρ σ z) (he : TV c e ρ σ v) (ho : PO2 c (compareOp o) x y σ (.bl true)) (ho' : PO2 c (compareOp o') y z σ (.bl true)) (ho'' : PO2 c (compareOp o'') z v σ (.bl s))
    (hm : lastMarks [o, o', o''] [b, d, e] = false := by with_unfolding_all rfl) : TV c (.Compare a [o, o', o''] [b, d, e] pos) ρ σ (.bl s) := ⟨fun {Q E} q => ⟨fun X hX st H K w rr xc Q' f => by
  refine cE_of (pe_chain3 cO_or cO_or cO_or cE_pe cE_pe cE_pe cE_pe hm) ?_
  refine (ha.to (Q := fun d σ' => d = x ∧ σ' = σ) ⟨rfl, rfl⟩).run X hX st H K w rr xc _ fun v1 d1 σ1 H1 K1 s1 w1 r1 ⟨z1, z2⟩ => ?_
  subst z1 z2
  refine (hb.to (Q := fun d σ' => d = y ∧ σ' = σ1) ⟨rfl, rfl⟩).run X hX st H1 K1 w1 (rr.same s1.b) (xc.next s1) _ fun u d2 σ2 H2 K2 s2 w2 r2 ⟨z1, z2⟩ => ?_
  subst z1 z2
  refine ho.run X hX H2 K2 w2 v1 u (r1.same s2.b) r2 _ fun q1 H3 K3 s3 w3 r3 => ?_
  cases r3
  refine ⟨rfl, ?_⟩
  have g3 := s1.trans (s2.trans s3)
  refine (hd.to (Q := fun d σ' => d = z ∧ σ' = σ2) ⟨rfl, rfl⟩).run X hX st H3 K3 w3 (rr.same g3.b) (xc.next g3) _ fun u3 d3 σ3 H4 K4 s4 w4 r4 ⟨z1, z2⟩ => ?_
  subst z1 z2
  refine ho'.run X hX H4 K4 w4 u u3 (r2.same (s3.trans s4).b) r4 _ fun q2 H5 K5 s5 w5 r5 => ?_
  cases r5
  refine ⟨rfl, ?_⟩
  have g5 := g3.trans (s4.trans s5)
  refine (he.to (Q := fun d σ' => d = v ∧ σ' = σ3) ⟨rfl, rfl⟩).run X hX st H5 K5 w5 (rr.same g5.b) (xc.next g5) _ fun u4 d4 σ4 H6 K6 s6 w6 r6 ⟨z1, z2⟩ => ?_
  subst z1 z2
  exact ho''.run X hX H6 K6 w6 u3 u4 (r4.same (s5.trans s6).b) r6 _ fun q3 H7 K7 s7 w7 r7 => f _ _ _ H7 K7 (g5.trans (s6.trans s7)) w7 r7 q⟩⟩
end

section
variable {c : Ct} {σ : Sg} {x : DT} {xs : List DT}
/-- a list, perhaps one that changes, == [] -/
theorem po_eqNilC (hx : LsT σ x xs) : PO2 c (compareOp .Eq) x (.lst []) σ (.bl xs.isEmpty) := ⟨fun X hX H K w v u rv ru Q k => by
  have hu := con_room hX
  have hX' := hX
  cases hX'
  obtain ⟨a, vs, rfl, q1, r1⟩ := hx.now w rv
  cases ru with
  | lst hb rb =>
    cases rb
    intro pins s st v1 v2 I y1 y2
    cases y1
    cases y2
    obtain ⟨its, ra, pl, _⟩ := I.list q1
    obtain ⟨its2, ra2, pl2, _⟩ := I.list (SqL.of (w.le _ _ hb))
    cases ra2
    have e1 : its.length = xs.length := ra.length.symm.trans r1.length
    have q0 := k (.bl xs.isEmpty) H K Gw.refl w (.bl _)
    cases its with
    | nil =>
      have e2 : xs.isEmpty = true := by
        cases xs with
        | nil => rfl
        | cons _ _ => cases e1
      rw [e2] at q0
      exact SeqAt.eq_listAt (e := fun _ => true) pl.isList pl2.isList rfl (by omega) (fun j h1 _ => absurd h1 (Nat.not_lt_zero _)) ⟨.bl true, K, I, rfl, q0⟩
    | cons _ _ =>
      have e2 : xs.isEmpty = false := by
        cases xs with
        | nil => cases e1
        | cons _ _ => rfl
      rw [e2] at q0
      exact SeqAt.eq_list_lengthsAt pl.isList pl2.isList (by simp) (by omega) ⟨.bl false, K, I, rfl, q0⟩⟩
end
end Y

/-! Ylc: list(x) of a list, as a cell. -/
namespace Y
open PySem PySem.Spec PyProof.Rows L2 SX Z
section
variable {c : Ct} {ρ : EnvT} {σ : Sg} {Q : DT → Sg → Prop} {E : TX} {a : Expr} {p pos : Pos}
theorem te_listLC [Calm c] (hg : GlS c "list") (hm : c.mg "list" = none) (h : TE c a ρ σ (fun x σ1 => ∃ xs, LsT σ1 x xs ∧ ∀ q, σ1 q = none → Q (.ref q) (su σ1 q (.lst xs))) E)
    (he : ∀ env, starEach [a] env = (false, eval a env) :: starEach [] env := by intro _; rfl) (hpl : ∀ pos env, (backTo pos (starEach [] env)).any (·.1) = false := by intro _ _; rfl) : TE c (.Call (.Name "list" p) [a] [] pos) ρ σ Q E := ⟨fun X hX st H K w r xc Q' fo => by
  have hc := con_calm hX
  have hX' := hX
  cases hX'
  refine cE_of (pe_callTy call_list_of hg hm (by exact bt_list) (cA_pa (e := [a])) (by decide) (by decide) (he _) (hpl _ _)) ?_
  refine (ta_cons (QA := fun ds σ1 => ∃ x xs, ds = [x] ∧ LsT σ1 x xs ∧ ∀ q, σ1 q = none → Q (.ref q) (su σ1 q (.lst xs))) (h.imp fun x σ1 ⟨xs, h1, h2⟩ => ta_nil ⟨x, xs, rfl, h1, h2⟩) he).run X hX st H K w r xc _ fun vs ds σ1 H1 K1 s1 w1 r1 ⟨x, xs, ed, hx, q⟩ => ?_
  subst ed
  obtain ⟨u, rfl, ru⟩ := repA_one r1
  obtain ⟨b, ws, rfl, q1, ra⟩ := hx.now w1 ru
  refine ⟨b, ws, rfl, .inl q1, fun z hz => ?_⟩
  exact fo _ _ _ H1 _ (s1.trans (Gw.newC hz)) ((w1.push (o := .lst ws) hz).add (c := .lst xs) (none_of w1.le hz) ⟨_, upd_same, ra⟩) (.ref z) (q z (w1.free hz))⟩
end
end Y

/-! Yox: == and != of instances that change. -/
namespace Y
open PySem PySem.Spec PyProof.Rows L2 SX Z
section
variable {c : Ct} {σ : Sg} {x y d : DT} {C : Addr} {fs gs : List (Str × DT)} {k : Nat} {ps : List Str} {spec : TSpec} {b : Bool} {n : Nat}
theorem po_eqXX [Calm c] (mt : DtM c.P c.w c.K c.mg c.base C "__eq__" ps k spec) (hk : k ≤ c.k) (ox : ObX σ x C fs) (oy : ObX σ y C gs) (hs : ∀ {Q : DT → Sg → Prop} {E : TX}, Q (.bl b) σ → spec [x, y] σ Q E) : PO2 c (compareOp .Eq) x y σ (.bl b) := ⟨fun X hX H K w v u rv ru Q' q => by
  obtain ⟨f, fd, hm, hb, F⟩ := mt
  have hX' := hX
  cases hX' with
  | mk _ k' Wx fl hpp hrH hcf hh hp' ht hf hN hU hst =>
    obtain rfl : hpp = none := ‹Calm _›.h
    obtain ⟨hcc, hr⟩ := hcf rfl
    intro pins s st vv uu I r1 r2
    obtain ⟨ad, dx, vs, rfl, ea, rf⟩ := ox.now w rv
    obtain ⟨ad2, dx2, vs2, rfl, ea2, rf2⟩ := oy.now w ru
    · cases r1
      cases r2
      obtain ⟨mA, O, _, _, _, _⟩ := ins_get I.hok ea
      obtain ⟨od, J, _⟩ := O.look
      obtain ⟨mA2, O2, _, _, _, _⟩ := ins_get I.hok ea2
      obtain ⟨od2, J2, _⟩ := O2.look
      obtain ⟨m, fr⟩ := I.fr
      show wpAny (model X.prog X.w) X.A (richCompare .Eq (.ref ad) (.ref ad2)) (EP X pins st Q') X.xe s
      refine PySem.W.cmp_K (op := .Eq) (tb := .ref C) (by have := hr.units; omega) fr I.ok.mod.kin J J2.type (by simp [PySem.W.notFirst]) hm.at_ hm.fn ?_
      refine wpAny_mono (runAt (Q := fun v K2 => v = .bl b ∧ Q' (.bl b) K2) (vs := [.ref ad, .ref ad2]) F (hr.mono hk) hU rfl hb I (.cons rfl (.cons rfl .nil)) ⟨[x, y], H, σ, fun d' σ' => d' = .bl b ∧ σ' = σ, TX0, w, .cons rv (.cons ru .nil), hs ⟨rfl, rfl⟩, fun v d σ' H' K' s w' r ⟨e1, e2⟩ => by subst e1 e2; cases r; exact ⟨rfl, q _ H' K' s w' (.bl _)⟩, fun _ _ _ _ _ _ _ _ _ z => z⟩) (fun r s2 z => ?_) fun _ _ z => z
      obtain ⟨v2, K3, I3, rz, ez, q3⟩ := z
      subst ez
      cases rz
      exact ⟨.bl b, K3, I3, rfl, q3⟩⟩
theorem po_neXX [Calm c] (mt : DtM c.P c.w c.K c.mg c.base C "__eq__" ps k spec) (hk : k + 1 ≤ c.k) (ho : PySem.W.ownB c.K C = true) (ox : ObX σ x C fs) (oy : ObX σ y C gs) (hs : ∀ {Q : DT → Sg → Prop} {E : TX}, Q (.bl b) σ → spec [x, y] σ Q E) : PO2 c (compareOp .NotEq) x y σ (.bl (!b)) := ⟨fun X hX H K w v u rv ru Q' q => by
  obtain ⟨f, fd, hm, hb, F⟩ := mt
  have hX' := hX
  cases hX' with
  | mk _ k' Wx fl hpp hrH hcf hh hp' ht hf hN hU hst =>
    obtain rfl : hpp = none := ‹Calm _›.h
    obtain ⟨hcc, hr⟩ := hcf rfl
    intro pins s st vv uu I r1 r2
    obtain ⟨ad, dx, vs, rfl, ea, rf⟩ := ox.now w rv
    obtain ⟨ad2, dx2, vs2, rfl, ea2, rf2⟩ := oy.now w ru
    · cases r1
      cases r2
      obtain ⟨mA, O, _, _, _, _⟩ := ins_get I.hok ea
      obtain ⟨od, J, _⟩ := O.look
      obtain ⟨mA2, O2, _, _, _, _⟩ := ins_get I.hok ea2
      obtain ⟨od2, J2, _⟩ := O2.look
      have kin := I.kIn
      have run := runAt (Q := fun v K2 => v = .bl b ∧ Q' (.bl (!b)) K2) (vs := [.ref ad, .ref ad2]) (us := [.ref ad, .ref ad2]) (E' := X.xe) F ((hr.mono hk).in1) hU rfl hb I (.cons rfl (.cons rfl .nil)) ⟨[x, y], H, σ, fun d' σ' => d' = .bl b ∧ σ' = σ, TX0, w, .cons rv (.cons ru .nil), hs ⟨rfl, rfl⟩, fun v d σ' H' K' s w' r ⟨e1, e2⟩ => by subst e1 e2; cases r; exact ⟨rfl, q _ H' K' s w' (.bl _)⟩, fun _ _ _ _ _ _ _ _ _ z => z⟩
      have hu := hr.units
      obtain ⟨hp, g, dr, tk, os⟩ := s
      refine compareOp_ne_ownEq PySem.F.cmp_object (PySem.W.ownB_ok kin ho J.1 J.cls hm.at_ hm.fn) J2.1 J2.cls (by omega) ?_
      refine wpAny_mono run (fun r s2 z => ?_) fun _ _ z => z
      obtain ⟨v2, K3, I3, rz, ez, q3⟩ := z
      subst ez
      cases rz
      exact ⟨b, rfl, .bl (!b), K3, I3, rfl, q3⟩⟩
theorem po_eqXV [Calm c] (mt : DtM c.P c.w c.K c.mg c.base C "__eq__" ps k spec) (hk : k ≤ c.k) (bk : BkC c.K C) (hy : bi y = true) (ox : ObX σ x C fs) (hs : ∀ {Q : DT → Sg → Prop} {E : TX}, Q (.bl b) σ → spec [x, y] σ Q E) : PO2 c (compareOp .Eq) x y σ (.bl b) := ⟨fun X hX H K w v u rv ru Q' q => by
  obtain ⟨f, fd, hm, hb, F⟩ := mt
  have hX' := hX
  cases hX' with
  | mk _ k' Wx fl hpp hrH hcf hh hp' ht hf hN hU hst =>
    obtain rfl : hpp = none := ‹Calm _›.h
    obtain ⟨hcc, hr⟩ := hcf rfl
    intro pins s st vv uu I r1 r2
    obtain ⟨ad, dx, vs, rfl, ea, rf⟩ := ox.now w rv
    · cases r1
      obtain ⟨mA, O, _, _, _, _⟩ := ins_get I.hok ea
      obtain ⟨od, J, _⟩ := O.look
      obtain ⟨m, fr⟩ := I.fr
      obtain ⟨T, hT, mem⟩ := bi_ty hy
      obtain ⟨P, KX, hP, _⟩ := kit_of I r2 (tyT_x w ru (hT σ))
      show wpAny (model X.prog X.w) X.A (richCompare .Eq (.ref ad) uu) (EP X pins st Q') X.xe s
      refine PySem.W.cmp_K (op := .Eq) (tb := .type T) (by have := hr.units; omega) fr I.ok.mod.kin J (KX.ty _ _ I.kIn hP) (by unfold PySem.W.notFirst; rw [bk.dn T mem]; rfl) hm.at_ hm.fn ?_
      refine wpAny_mono (runAt (Q := fun v K2 => v = .bl b ∧ Q' (.bl b) K2) (vs := [.ref ad, u]) F (hr.mono hk) hU rfl hb I (.cons rfl (.cons r2 .nil)) ⟨[x, y], H, σ, fun d' σ' => d' = .bl b ∧ σ' = σ, TX0, w, .cons rv (.cons ru .nil), hs ⟨rfl, rfl⟩, fun v d σ' H' K' s w' r ⟨e1, e2⟩ => by subst e1 e2; cases r; exact ⟨rfl, q _ H' K' s w' (.bl _)⟩, fun _ _ _ _ _ _ _ _ _ z => z⟩) (fun r s2 z => ?_) fun _ _ z => z
      obtain ⟨v2, K3, I3, rz, ez, q3⟩ := z
      subst ez
      cases rz
      exact ⟨.bl b, K3, I3, rfl, q3⟩⟩
theorem po_eqVX [Calm c] (mt : DtM c.P c.w c.K c.mg c.base C "__eq__" ps k spec) (hk : k ≤ c.k) (bk : BkC c.K C) (hy : bi y = true) (ox : ObX σ x C fs) (hs : ∀ {Q : DT → Sg → Prop} {E : TX}, Q (.bl b) σ → spec [x, y] σ Q E) : PO2 c (compareOp .Eq) y x σ (.bl b) := ⟨fun X hX H K w u v ru rv Q' q => by
  obtain ⟨f, fd, hm, hb, Fn⟩ := mt
  have hX' := hX
  cases hX' with
  | mk _ k' Wx fl hpp hrH hcf hh hp' ht hf hN hU hst =>
    obtain rfl : hpp = none := ‹Calm _›.h
    obtain ⟨hcc, hr⟩ := hcf rfl
    intro pins s st uu vv I r2 r1
    obtain ⟨ad, dx, vs, rfl, ea, rf⟩ := ox.now w rv
    · cases r1
      obtain ⟨mA, O, _, _, _, _⟩ := ins_get I.hok ea
      obtain ⟨od, J, _⟩ := O.look
      have kin := I.kIn
      have hu : X.A.units < cLine := by have := hr.units; omega
      have run : wpAny (model X.prog X.w) X.A (call (.ref f) [.ref ad, uu]) (PySem.W.CmpBack (EP X pins st Q')) X.xe s := by
        refine wpAny_mono (runAt (Q := fun v K2 => v = .bl b ∧ Q' (.bl b) K2) (vs := [.ref ad, u]) Fn (hr.mono hk) hU rfl hb I (.cons rfl (.cons r2 .nil)) ⟨[x, y], H, σ, fun d' σ' => d' = .bl b ∧ σ' = σ, TX0, w, .cons rv (.cons ru .nil), hs ⟨rfl, rfl⟩, fun v d σ' H' K' s w' r ⟨e1, e2⟩ => by subst e1 e2; cases r; exact ⟨rfl, q _ H' K' s w' (.bl _)⟩, fun _ _ _ _ _ _ _ _ _ z => z⟩) (fun r s2 z => ?_) fun _ _ z => z
        obtain ⟨v2, K3, I3, rz, ez, q3⟩ := z
        subst ez
        cases rz
        exact ⟨.bl b, K3, I3, rfl, q3⟩
      show wpAny (model X.prog X.w) X.A (richCompare .Eq uu (.ref ad)) (EP X pins st Q') X.xe s
      have up := bk.up
      cases ru with
      | non =>
        cases r2
        exact PySem.W.rc_back hu kin J rfl (up "NoneType" (by simp [tys])) F.slot_NoneType_eq (fun _ hq => call_gives F.slot_NoneType_eq rfl F.entry_NoneType_eq (F.args_NoneType_eq_2 _ _) (SeqAt.NoneType___eq___none_ref_0 ad) hq) hm.at_ hm.fn run
      | bl b =>
        cases r2
        exact PySem.W.rc_back hu kin J rfl (up "bool" (by simp [tys])) F.slot_bool_eq (fun _ hq => call_meets F.slot_bool_eq rfl F.entry_int_eq (F.args_int_eq_2 _ _) (PySem.W.bool_eq_inst b ad _ _) ⟨J.1, hq⟩) hm.at_ hm.fn run
      | int i =>
        obtain ⟨t, e⟩ := (show ∃ t, uu = Value.int i t from r2)
        subst e
        exact PySem.W.rc_back hu kin J (typeIs_int s i t) (up "int" (by simp [tys])) F.slot_int_eq (fun _ hq => call_meets F.slot_int_eq (typeIs_int s i t) F.entry_int_eq (F.args_int_eq_2 _ _) (PySem.W.int_eq_inst i t ad _ _) ⟨J.1, hq⟩) hm.at_ hm.fn run
      | str z =>
        obtain ⟨t, e⟩ := (show ∃ t, uu = Value.str (S z) t from r2)
        subst e
        exact PySem.W.rc_back hu kin J (typeIs_str s (S z) t) (up "str" (by simp [tys])) F.slot_str_eq (fun _ hq => call_meets F.slot_str_eq (typeIs_str s (S z) t) F.entry_str_eq (F.args_str_eq_2 _ _) (PySem.W.str_eq_inst (S z) t ad _ _) ⟨J.1, hq⟩) hm.at_ hm.fn run
      | @lst a2 vs2 ds e2 r3 =>
        have tl := (ty_lst (x := .lst ds) lsT_l X hX H K w (.ref a2) (.lst e2 r3) pins st s uu I r2).1
        cases r2
        exact PySem.W.rc_back hu kin J tl (up "list" (by simp [tys])) F.slot_list_eq (fun _ hq => call_meets F.slot_list_eq tl F.entry_list_eq (F.args_list_eq_2 _ _) (PySem.W.list_eq_inst (up "list" (by simp [tys])) a2 ad _) ⟨kin, J.1, hq⟩) hm.at_ hm.fn run
      | @tup a2 vs2 ds e2 r3 =>
        obtain ⟨its, _, ⟨ob, eo, co⟩, _⟩ := I.tuple (same_sqt w.le e2)
        cases r2
        exact PySem.W.rc_back hu kin J ⟨ob, eo, co.1⟩ (up "tuple" (by simp [tys])) F.slot_tuple_eq (fun _ hq => call_meets F.slot_tuple_eq ⟨ob, eo, co.1⟩ F.entry_tuple_eq (F.args_tuple_eq_2 _ _) (PySem.W.tuple_eq_inst (up "tuple" (by simp [tys])) a2 ad _) ⟨kin, J.1, hq⟩) hm.at_ hm.fn run
      | @dct a2 ob kvs ds e2 r3 =>
        have tl := (ty_dct (x := .dct ds) diT_l X hX H K w (.ref a2) (.dct e2 r3) pins st s uu I r2).1
        cases r2
        exact PySem.W.rc_back hu kin J tl (up "dict" (by simp [tys])) F.slot_dict_eq (fun _ hq => call_meets F.slot_dict_eq tl F.entry_dict_eq (F.args_dict_eq_2 _ _) (PySem.W.dict_eq_inst (up "dict" (by simp [tys])) a2 ad _) ⟨kin, J.1, hq⟩) hm.at_ hm.fn run
      | _ => cases hy⟩
theorem po_neXV [Calm c] (mt : DtM c.P c.w c.K c.mg c.base C "__eq__" ps k spec) (hk : k + 1 ≤ c.k) (ho : PySem.W.ownB c.K C = true) (bk : BkC c.K C) (hy : bi y = true) (ox : ObX σ x C fs) (hs : ∀ {Q : DT → Sg → Prop} {E : TX}, Q (.bl b) σ → spec [x, y] σ Q E) : PO2 c (compareOp .NotEq) x y σ (.bl (!b)) := ⟨fun X hX H K w v u rv ru Q' q => by
  obtain ⟨f, fd, hm, hb, Fn⟩ := mt
  have hX' := hX
  cases hX' with
  | mk _ k' Wx fl hpp hrH hcf hh hp' ht hf hN hU hst =>
    obtain rfl : hpp = none := ‹Calm _›.h
    obtain ⟨hcc, hr⟩ := hcf rfl
    intro pins s st vv uu I r1 r2
    obtain ⟨ad, dx, vs, rfl, ea, rf⟩ := ox.now w rv
    · cases r1
      obtain ⟨mA, O, _, _, _, _⟩ := ins_get I.hok ea
      obtain ⟨od, J, _⟩ := O.look
      have kin := I.kIn
      obtain ⟨T, hT, mem⟩ := bi_ty hy
      obtain ⟨P, KX, hP, _⟩ := kit_of I r2 (tyT_x w ru (hT σ))
      have lk := KX.ty (model X.prog X.w) s.heap kin hP
      have run := runAt (Q := fun v K2 => v = .bl b ∧ Q' (.bl (!b)) K2) (vs := [.ref ad, u]) (us := [.ref ad, uu]) (E' := X.xe) Fn ((hr.mono hk).in1) hU rfl hb I (.cons rfl (.cons r2 .nil)) ⟨[x, y], H, σ, fun d' σ' => d' = .bl b ∧ σ' = σ, TX0, w, .cons rv (.cons ru .nil), hs ⟨rfl, rfl⟩, fun v d σ' H' K' s w' r ⟨e1, e2⟩ => by subst e1 e2; cases r; exact ⟨rfl, q _ H' K' s w' (.bl _)⟩, fun _ _ _ _ _ _ _ _ _ z => z⟩
      have hu := hr.units
      obtain ⟨hp, g, dr, tk, os⟩ := s
      show wpAny (model X.prog X.w) X.A (richCompare .NotEq (.ref ad) uu) (EP X pins st Q') X.xe _
      refine PySem.W.ne_richV (T := T) PySem.F.cmp_object (PySem.W.ownB_ok kin ho J.1 J.cls hm.at_ hm.fn) kin lk (bk.dn T mem) (by omega) ?_
      refine wpAny_mono run (fun r s2 z => ?_) fun _ _ z => z
      obtain ⟨v2, K3, I3, rz, ez, q3⟩ := z
      subst ez
      cases rz
      exact ⟨b, rfl, .bl (!b), K3, I3, rfl, q3⟩⟩
end
end Y

/-! Yoy: == and != of instances of two own classes; isinstance of an instance with another own class. -/
namespace PySem.W
open PySem PySem.Calls PyProof.Rows Builtin
section
variable {prog : Program} {w : World} {A : Around} {E : Value → Shared → Prop} {h : Heap} {g : Array GenState} {d : Drawn} {t : Nat} {os : OsState} {C D x f : Addr} {b : Value} {B : String} {bm : List Value} {K : Frag}
theorem ne_richC (FB : CmpFacts B bm) (X : h.OwnEqNoNe x C f B bm) (KI : K.In h) (hb : Looks (model prog w) h (typeOf b) (.ref D)) (hs : subIn K (.ref D) (.ref C) = some false) (hu : A.units + 1 < cLine) {Q : Value → Shared → Prop}
    (go : wpAny (model prog w) A.in1 (call (.ref f) [.ref x, b]) (fun v s' => ∃ r, v = .bool r ∧ Q (.bool (!r)) s') E ⟨h, g, d, t, os⟩) :
    wpAny (model prog w) A (richCompare .NotEq (.ref x) b) Q E ⟨h, g, d, t, os⟩ := by
  have X' := X
  obtain ⟨o, of, nm, q, N, bs, hdct, sn, sub, ab, col, dd, k0, k1, k2, k3, k5, newId, mN, yv, hx, hc, _⟩ := X'
  unfold richCompare
  simp only [oneThing_ref]
  refine wpAny_holding ?_
  refine wpAny_bind (wpAny_cRoomFor_or (.inr (Nat.lt_of_succ_lt hu)) ?_)
  rw [cmpInfo_NotEq]
  dsimp only
  refine wpAny_bind (wpAny_typeOf_ref hx ?_)
  rw [hc]
  refine wpAny_bind (hb.here ?_)
  split
  · refine wpAny_bind (wpAny_sub KI hs ?_)
    simp only [Bool.false_eq_true, if_false]
    refine wpAny_bind (ne_tryV FB X hu (wpAny_mono go (fun v s' hv => ?_) fun _ _ e => e))
    obtain ⟨b, rfl, hq⟩ := hv
    first | exact ⟨b, rfl, wpAny_pure hq⟩ | exact ⟨b, rfl, wpAny_pure (wpAny_pure hq)⟩
  · refine wpAny_bind (wpAny_pure ?_)
    simp only [Bool.false_eq_true, if_false]
    refine wpAny_bind (ne_tryV FB X hu (wpAny_mono go (fun v s' hv => ?_) fun _ _ e => e))
    obtain ⟨b, rfl, hq⟩ := hv
    first | exact ⟨b, rfl, wpAny_pure hq⟩ | exact ⟨b, rfl, wpAny_pure (wpAny_pure hq)⟩
end
end PySem.W
namespace Y
open PySem PySem.Spec PyProof.Rows L2 SX Z
/-- D is another class than C, and not below it -/
structure OtC (K : PySem.W.Frag) (C D : Addr) : Prop where
  su : PySem.W.subIn K (.ref D) (.ref C) = some false
  ki : PySem.W.kitOne K (.ref D) (.ref C) = some false
def otB (F : PySem.W.Frag) (C D : Addr) : Bool := PySem.W.subIn F (.ref D) (.ref C) == some false && PySem.W.kitOne F (.ref D) (.ref C) == some false
theorem otB_ok {F : PySem.W.Frag} {C D : Addr} (h : otB F C D = true) : OtC F C D := by
  unfold otB at h
  rw [Bool.and_eq_true] at h
  exact ⟨beq_iff_eq.mp h.1, beq_iff_eq.mp h.2⟩
section
variable {c : Ct} {σ : Sg} {x y d : DT} {C D : Addr} {fs gs : List (Str × DT)} {k : Nat} {ps : List Str} {spec : TSpec} {b : Bool} {n : Nat}
theorem po_eqXY [Calm c] (mt : DtM c.P c.w c.K c.mg c.base C "__eq__" ps k spec) (hk : k ≤ c.k) (ot : OtC c.K C D) (ox : ObX σ x C fs) (oy : ObX σ y D gs) (hs : ∀ {Q : DT → Sg → Prop} {E : TX}, Q (.bl b) σ → spec [x, y] σ Q E) : PO2 c (compareOp .Eq) x y σ (.bl b) := ⟨fun X hX H K w v u rv ru Q' q => by
  obtain ⟨f, fd, hm, hb, F⟩ := mt
  have hX' := hX
  cases hX' with
  | mk _ k' Wx fl hpp hrH hcf hh hp' ht hf hN hU hst =>
    obtain rfl : hpp = none := ‹Calm _›.h
    obtain ⟨hcc, hr⟩ := hcf rfl
    intro pins s st vv uu I r1 r2
    obtain ⟨ad, dx, vs, rfl, ea, rf⟩ := ox.now w rv
    obtain ⟨ad2, dx2, vs2, rfl, ea2, rf2⟩ := oy.now w ru
    · cases r1
      cases r2
      obtain ⟨mA, O, _, _, _, _⟩ := ins_get I.hok ea
      obtain ⟨od, J, _⟩ := O.look
      obtain ⟨mA2, O2, _, _, _, _⟩ := ins_get I.hok ea2
      obtain ⟨od2, J2, _⟩ := O2.look
      obtain ⟨m, fr⟩ := I.fr
      show wpAny (model X.prog X.w) X.A (richCompare .Eq (.ref ad) (.ref ad2)) (EP X pins st Q') X.xe s
      refine PySem.W.cmp_K (op := .Eq) (tb := .ref D) (by have := hr.units; omega) fr I.ok.mod.kin J J2.type (by unfold PySem.W.notFirst; rw [ot.su, Bool.or_eq_true]; exact .inr rfl) hm.at_ hm.fn ?_
      refine wpAny_mono (runAt (Q := fun v K2 => v = .bl b ∧ Q' (.bl b) K2) (vs := [.ref ad, .ref ad2]) F (hr.mono hk) hU rfl hb I (.cons rfl (.cons rfl .nil)) ⟨[x, y], H, σ, fun d' σ' => d' = .bl b ∧ σ' = σ, TX0, w, .cons rv (.cons ru .nil), hs ⟨rfl, rfl⟩, fun v d σ' H' K' s w' r ⟨e1, e2⟩ => by subst e1 e2; cases r; exact ⟨rfl, q _ H' K' s w' (.bl _)⟩, fun _ _ _ _ _ _ _ _ _ z => z⟩) (fun r s2 z => ?_) fun _ _ z => z
      obtain ⟨v2, K3, I3, rz, ez, q3⟩ := z
      subst ez
      cases rz
      exact ⟨.bl b, K3, I3, rfl, q3⟩⟩
theorem po_neXY [Calm c] (mt : DtM c.P c.w c.K c.mg c.base C "__eq__" ps k spec) (hk : k + 1 ≤ c.k) (ho : PySem.W.ownB c.K C = true) (ot : OtC c.K C D) (ox : ObX σ x C fs) (oy : ObX σ y D gs) (hs : ∀ {Q : DT → Sg → Prop} {E : TX}, Q (.bl b) σ → spec [x, y] σ Q E) : PO2 c (compareOp .NotEq) x y σ (.bl (!b)) := ⟨fun X hX H K w v u rv ru Q' q => by
  obtain ⟨f, fd, hm, hb, F⟩ := mt
  have hX' := hX
  cases hX' with
  | mk _ k' Wx fl hpp hrH hcf hh hp' ht hf hN hU hst =>
    obtain rfl : hpp = none := ‹Calm _›.h
    obtain ⟨hcc, hr⟩ := hcf rfl
    intro pins s st vv uu I r1 r2
    obtain ⟨ad, dx, vs, rfl, ea, rf⟩ := ox.now w rv
    obtain ⟨ad2, dx2, vs2, rfl, ea2, rf2⟩ := oy.now w ru
    · cases r1
      cases r2
      obtain ⟨mA, O, _, _, _, _⟩ := ins_get I.hok ea
      obtain ⟨od, J, _⟩ := O.look
      obtain ⟨mA2, O2, _, _, _, _⟩ := ins_get I.hok ea2
      obtain ⟨od2, J2, _⟩ := O2.look
      have kin := I.kIn
      have run := runAt (Q := fun v K2 => v = .bl b ∧ Q' (.bl (!b)) K2) (vs := [.ref ad, .ref ad2]) (us := [.ref ad, .ref ad2]) (E' := X.xe) F ((hr.mono hk).in1) hU rfl hb I (.cons rfl (.cons rfl .nil)) ⟨[x, y], H, σ, fun d' σ' => d' = .bl b ∧ σ' = σ, TX0, w, .cons rv (.cons ru .nil), hs ⟨rfl, rfl⟩, fun v d σ' H' K' s w' r ⟨e1, e2⟩ => by subst e1 e2; cases r; exact ⟨rfl, q _ H' K' s w' (.bl _)⟩, fun _ _ _ _ _ _ _ _ _ z => z⟩
      have hu := hr.units
      have lk : PySem.W.Looks (model X.prog X.w) s.heap (typeOf (.ref ad2)) (.ref D) := J2.type
      obtain ⟨hp, g, dr, tk, os⟩ := s
      show wpAny (model X.prog X.w) X.A (richCompare .NotEq (.ref ad) (.ref ad2)) (EP X pins st Q') X.xe _
      refine PySem.W.ne_richC (D := D) PySem.F.cmp_object (PySem.W.ownB_ok kin ho J.1 J.cls hm.at_ hm.fn) kin lk ot.su (by omega) ?_
      refine wpAny_mono run (fun r s2 z => ?_) fun _ _ z => z
      obtain ⟨v2, K3, I3, rz, ez, q3⟩ := z
      subst ez
      cases rz
      exact ⟨b, rfl, .bl (!b), K3, I3, rfl, q3⟩⟩
end
end Y
namespace Y
open PySem PySem.Spec L2 SX Z
section
variable {c : Ct} {ρ : EnvT} {σ : Sg} {D : EndT} {s : Stmt} {r : List Stmt}
/-- what several ways through a statement have in common -/
theorem tk_join (I : EnvT → Sg → Prop) (h : TS c s ρ σ { D with nx := I }) (k : ∀ ρ' σ', I ρ' σ' → TBk c r ρ' σ' D) : TBk c (s :: r) ρ σ D := tk_cons (h.imp k (fun _ _ q => q) (fun _ _ q => q) (fun _ _ q => q) (fun _ _ _ _ q => q))
end
end Y

/-! Ych: a < b <= c < d with any answer. -/
namespace Y
open PySem PySem.Spec PyProof.Rows L2 L2H SX Z HotX
def tChain3G (r r' r'' : R2) (ta tb tc td : L2.TE) : L2.TE := fun σ H Q => ta σ H fun x H1 => tb σ H1 fun y H2 => r x y H2 fun z H3 => ∃ k, z = .bl k ∧ (k = false → Q (.bl false) H3) ∧ (k = true → tc σ H3 fun w H4 => r' y w H4 fun z' H5 => ∃ k', z' = .bl k' ∧ (k' = false → Q (.bl false) H5) ∧ (k' = true → td σ H5 fun v H6 => r'' w v H6 Q))
theorem pe_chain3G {X : Cx} {a b c d : Expr} {ta tb tc td : L2.TE} {op op' op'' : CmpOp} {r r' r'' : R2} {pos : Pos} (ho : OpR X (compareOp op) r) (ho' : OpR X (compareOp op') r') (ho'' : OpR X (compareOp op'') r'') (ha : PE X a ta) (hb : PE X b tb) (hc : PE X c tc) (hd : PE X d td)
    (hm : lastMarks [op, op', op''] [b, c, d] = false) : PE X (.Compare a [op, op', op''] [b, c, d] pos) (tChain3G r r' r'' ta tb tc td) := by
  refine ⟨fun pins s σ H Q I h => ?_⟩
  refine Compare_chain (thn (ha.run pins s σ H _ I h) fun v s1 ⟨x, H1, I1, r1, q1⟩ => chain_link (thn (hb.run pins s1 σ H1 _ I1 q1) fun u s2 ⟨y, H2, I2, r2, q2⟩ =>
    thn (ho pins s2 σ H2 x y v u _ I2 r1 r2 q2) fun d s3 ⟨z, H3, I3, r3, k, e, f3, q3⟩ => ?_)) hm
  subst e
  cases r3
  refine wpAny_truthy_bool ?_
  cases k with
  | false => exact ite_ff ⟨.bl false, H3, I3, rfl, f3 rfl⟩
  | true =>
    refine ite_tt (chain_link (thn (hc.run pins s3 σ H3 _ I3 (q3 rfl)) fun w' s4 ⟨z', H4, I4, r4, q4⟩ => thn (ho' pins s4 σ H4 y z' u w' _ I4 r2 r4 q4) fun d' s5 ⟨z2, H5, I5, r5, k', e2, f5, q5⟩ => ?_))
    subst e2
    cases r5
    refine wpAny_truthy_bool ?_
    cases k' with
    | false => exact ite_ff ⟨.bl false, H5, I5, rfl, f5 rfl⟩
    | true => exact ite_tt (chain_last (thn (hd.run pins s5 σ H5 _ I5 (q5 rfl)) fun w2 s6 ⟨z3, H6, I6, r6, q6⟩ => ho'' pins s6 σ H6 z' z3 w' w2 Q I6 r4 r6 q6))
section
variable {c : Ct} {ρ : EnvT} {σ : Sg} {a b : Expr} {x y z v : DT} {pos : Pos}
theorem tv_chain3G {d e : Expr} {o o' o'' : CmpOp} {r s t : Bool} (ha : TV c a ρ σ x) (hb : TV c b ρ σ y) (hd : TV c d ρ σ z) (he : TV c e ρ σ v) (ho : PO2 c (compareOp o) x y σ (.bl r)) (ho' : PO2 c (compareOp o') y z σ (.bl s)) (ho'' : PO2 c (compareOp o'') z v σ (.bl t))
    (hm : lastMarks [o, o', o''] [b, d, e] = false := by with_unfolding_all rfl) : TV c (.Compare a [o, o', o''] [b, d, e] pos) ρ σ (.bl (r && (s && t))) := ⟨fun {Q E} q => ⟨fun X hX st H K w rr xc Q' f => by
  refine cE_of (pe_chain3G cO_or cO_or cO_or cE_pe cE_pe cE_pe cE_pe hm) ?_
  refine (ha.to (Q := fun d σ' => d = x ∧ σ' = σ) ⟨rfl, rfl⟩).run X hX st H K w rr xc _ fun v1 d1 σ1 H1 K1 s1 w1 r1 ⟨z1, z2⟩ => ?_
  subst z1 z2
  refine (hb.to (Q := fun d σ' => d = y ∧ σ' = σ1) ⟨rfl, rfl⟩).run X hX st H1 K1 w1 (rr.same s1.b) (xc.next s1) _ fun u d2 σ2 H2 K2 s2 w2 r2 ⟨z1, z2⟩ => ?_
  subst z1 z2
  refine ho.run X hX H2 K2 w2 v1 u (r1.same s2.b) r2 _ fun q1 H3 K3 s3 w3 r3 => ?_
  cases r3
  have g3 := s1.trans (s2.trans s3)
  refine ⟨r, rfl, fun e => ?_, fun e => ?_⟩
  · subst e
    exact f _ _ _ H3 K3 g3 w3 (.bl false) q
  subst e
  refine (hd.to (Q := fun d σ' => d = z ∧ σ' = σ2) ⟨rfl, rfl⟩).run X hX st H3 K3 w3 (rr.same g3.b) (xc.next g3) _ fun u3 d3 σ3 H4 K4 s4 w4 r4 ⟨z1, z2⟩ => ?_
  subst z1 z2
  refine ho'.run X hX H4 K4 w4 u u3 (r2.same (s3.trans s4).b) r4 _ fun q2 H5 K5 s5 w5 r5 => ?_
  cases r5
  have g5 := g3.trans (s4.trans s5)
  refine ⟨s, rfl, fun e => ?_, fun e => ?_⟩
  · subst e
    exact f _ _ _ H5 K5 g5 w5 (.bl false) q
  subst e
  refine (he.to (Q := fun d σ' => d = v ∧ σ' = σ3) ⟨rfl, rfl⟩).run X hX st H5 K5 w5 (rr.same g5.b) (xc.next g5) _ fun u4 d4 σ4 H6 K6 s6 w6 r6 ⟨z1, z2⟩ => ?_
  subst z1 z2
  exact ho''.run X hX H6 K6 w6 u3 u4 (r4.same (s5.trans s6).b) r6 _ fun q3 H7 K7 s7 w7 r7 => f _ _ _ H7 K7 (g5.trans (s6.trans s7)) w7 r7 q⟩⟩
end
end Y

/-! Ytp: tuples put together; any slice of a tuple. -/
namespace Y
open PySem PySem.Spec L2 SX Z
section
variable {c : Ct} {σ : Sg} {xs ys : List DT}
theorem po_catT (h : xs.length + ys.length ≤ 16777216) : PO2 c (binaryOp .Add) (.tup xs) (.tup ys) σ (.tup (xs ++ ys)) := ⟨fun X hX H K w v u rv ru Q k => by
  have hX' := hX
  cases hX'
  obtain ⟨a, vs, rfl, q1, r1⟩ := rep_tup w rv
  obtain ⟨b, us, rfl, q2, r2⟩ := rep_tup w ru
  refine cO_of op_catA ⟨a, b, vs, us, rfl, rfl, q1, q2, by rw [r1.length, r2.length, sizeLine_eq]; exact h, fun z => ?_, fun _ z => ?_, fun _ _ p hp => ?_⟩
  · subst z
    cases r1
    exact k _ _ _ Gw.refl w ru
  · subst z
    cases r2
    exact k _ _ _ Gw.refl w (by rw [List.append_nil]; exact rv)
  · obtain ⟨g, w2⟩ := w.new (o := .tup (vs ++ us)) hp
    exact k _ _ _ g w2 (.tup (SqT.of upd_same) ((r1.append r2).same g.b))⟩
end
end Y

/-! Yct: a < b <= c < d as a test. -/
namespace Y
open PySem PySem.Spec PyProof.Rows L2 L2H SX Z HotX
def tChain3T (r r' r'' : R2) (ta tb tc td : L2.TE) : L2.TT := fun σ H Q => ta σ H fun x H1 => tb σ H1 fun y H2 => r x y H2 fun z H3 => ∃ k, z = .bl k ∧ (k = false → Q false H3) ∧ (k = true → tc σ H3 fun w H4 => r' y w H4 fun z' H5 => ∃ k', z' = .bl k' ∧ (k' = false → Q false H5) ∧ (k' = true → td σ H5 fun v H6 => r'' w v H6 fun z'' H7 => ∃ k'', z'' = .bl k'' ∧ Q k'' H7))
theorem pt_chain3 {X : Cx} {a b c d : Expr} {ta tb tc td : L2.TE} {op op' op'' : CmpOp} {r r' r'' : R2} {pos : Pos} (ho : OpR X (compareOp op) r) (ho' : OpR X (compareOp op') r') (ho'' : OpR X (compareOp op'') r'') (ha : PE X a ta) (hb : PE X b tb) (hc : PE X c tc) (hd : PE X d td)
    (hm : lastMarks [op, op', op''] [b, c, d] = false) : PT X (.Compare a [op, op', op''] [b, c, d] pos) (tChain3T r r' r'' ta tb tc td) := by
  refine ⟨fun pins s σ H Q I h => ?_⟩
  refine isTrue_chain (thn (ha.run pins s σ H _ I h) fun v s1 ⟨x, H1, I1, r1, q1⟩ => test_link (thn (hb.run pins s1 σ H1 _ I1 q1) fun u s2 ⟨y, H2, I2, r2, q2⟩ =>
    thn (ho pins s2 σ H2 x y v u _ I2 r1 r2 q2) fun d s3 ⟨z, H3, I3, r3, k, e, f3, q3⟩ => ?_)) hm
  subst e
  cases r3
  refine wpAny_truthy_bool ?_
  cases k with
  | false => exact ite_ff ⟨H3, I3, f3 rfl⟩
  | true =>
    refine ite_tt (test_link (thn (hc.run pins s3 σ H3 _ I3 (q3 rfl)) fun w' s4 ⟨z', H4, I4, r4, q4⟩ => thn (ho' pins s4 σ H4 y z' u w' _ I4 r2 r4 q4) fun d' s5 ⟨z2, H5, I5, r5, k', e2, f5, q5⟩ => ?_))
    subst e2
    cases r5
    refine wpAny_truthy_bool ?_
    cases k' with
    | false => exact ite_ff ⟨H5, I5, f5 rfl⟩
    | true =>
      refine ite_tt (test_last (thn (hd.run pins s5 σ H5 _ I5 (q5 rfl)) fun w2 s6 ⟨z3, H6, I6, r6, q6⟩ => thn (ho'' pins s6 σ H6 z' z3 w' w2 _ I6 r4 r6 q6) fun d'' s7 ⟨z4, H7, I7, r7, k'', e4, q7⟩ => ?_))
      subst e4
      cases r7
      exact wpAny_truthy_bool ⟨H7, I7, q7⟩
section
variable {c : Ct} {ρ : EnvT} {σ : Sg} {a b : Expr} {x y z v : DT} {pos : Pos}
theorem tb_chain3 {d e : Expr} {o o' o'' : CmpOp} {r s t : Bool} (ha : TV c a ρ σ x) (hb : TV c b ρ σ y) (hd : TV c d ρ σ z) (he : TV c e ρ σ v) (ho : PO2 c (compareOp o) x y σ (.bl r)) (ho' : PO2 c (compareOp o') y z σ (.bl s)) (ho'' : PO2 c (compareOp o'') z v σ (.bl t))
    (hm : lastMarks [o, o', o''] [b, d, e] = false := by with_unfolding_all rfl) : TB c (.Compare a [o, o', o''] [b, d, e] pos) ρ σ (r && (s && t)) := ⟨fun {Q E} q => ⟨fun X hX st H K w rr xc Q' f => by
  refine cT_of (pt_chain3 cO_or cO_or cO_or cE_pe cE_pe cE_pe cE_pe hm) ?_
  refine (ha.to (Q := fun d σ' => d = x ∧ σ' = σ) ⟨rfl, rfl⟩).run X hX st H K w rr xc _ fun v1 d1 σ1 H1 K1 s1 w1 r1 ⟨z1, z2⟩ => ?_
  subst z1 z2
  refine (hb.to (Q := fun d σ' => d = y ∧ σ' = σ1) ⟨rfl, rfl⟩).run X hX st H1 K1 w1 (rr.same s1.b) (xc.next s1) _ fun u d2 σ2 H2 K2 s2 w2 r2 ⟨z1, z2⟩ => ?_
  subst z1 z2
  refine ho.run X hX H2 K2 w2 v1 u (r1.same s2.b) r2 _ fun q1 H3 K3 s3 w3 r3 => ?_
  cases r3
  have g3 := s1.trans (s2.trans s3)
  refine ⟨r, rfl, fun e => ?_, fun e => ?_⟩
  · subst e
    exact f _ _ _ H3 K3 g3 w3 rfl q
  subst e
  refine (hd.to (Q := fun d σ' => d = z ∧ σ' = σ2) ⟨rfl, rfl⟩).run X hX st H3 K3 w3 (rr.same g3.b) (xc.next g3) _ fun u3 d3 σ3 H4 K4 s4 w4 r4 ⟨z1, z2⟩ => ?_
  subst z1 z2
  refine ho'.run X hX H4 K4 w4 u u3 (r2.same (s3.trans s4).b) r4 _ fun q2 H5 K5 s5 w5 r5 => ?_
  cases r5
  have g5 := g3.trans (s4.trans s5)
  refine ⟨s, rfl, fun e => ?_, fun e => ?_⟩
  · subst e
    exact f _ _ _ H5 K5 g5 w5 rfl q
  subst e
  refine (he.to (Q := fun d σ' => d = v ∧ σ' = σ3) ⟨rfl, rfl⟩).run X hX st H5 K5 w5 (rr.same g5.b) (xc.next g5) _ fun u4 d4 σ4 H6 K6 s6 w6 r6 ⟨z1, z2⟩ => ?_
  subst z1 z2
  refine ho''.run X hX H6 K6 w6 u3 u4 (r4.same (s5.trans s6).b) r6 _ fun q3 H7 K7 s7 w7 r7 => ?_
  cases r7
  exact ⟨t, rfl, f _ _ _ H7 K7 (g5.trans (s6.trans s7)) w7 rfl q⟩⟩⟩
end
end Y

/-! Yre: repr of a text, list.extend. -/
namespace Y
open PySem PySem.Spec L2 SX Z
section
variable {c : Ct} {σ : Sg} {x : DT} {xs ys : List DT} {s : List Nat} {p : Addr} {P : DT → Sg → Prop}
theorem pf_reprS {n w : Nat} (g : Gd n w (.str s)) (hw : w ≤ 250000) : POF c (.builtin "repr") [.str s] σ (.str (reprT (.str s))) := ⟨fun X hX H K w vs ra Q k => by
  have hX' := hX
  cases hX'
  obtain ⟨v, rfl, rv⟩ := repA_one ra
  cases rv
  intro pins st s0 us I r
  obtain ⟨u, rfl, ru⟩ := vals1 r
  obtain ⟨t, rfl⟩ := ru
  have f := g.f
  have h1 := PyData.shown_le 63 (by decide) (toPy (.str s)) f.lv
  have h2 : (63 + 2) * (toPy (.str s)).weight ≤ (63 + 2) * 250000 := Nat.mul_le_mul (Nat.le_refl _) (Nat.le_trans f.wt hw)
  have h3 : (reprText (S s)).length ≤ sizeLine := by
    have e : (toPy (.str s)).shown = reprText (S s) := by first | rfl | (simp [toPy, PyData.shown])
    rw [← e, sizeLine_eq]
    omega
  refine PySem.P.repr_of_str ⟨.str _, K, I.tok _, ⟨_, rfl⟩, k _ H K Gw.refl w ?_⟩ h3
  have e : (toPy (.str s)).shown = reprText (S s) := by first | rfl | (simp [toPy, PyData.shown])
  have := Rep.str (F := X.K) (H := H) (toPy (.str s)).shown.cps.toList
  rw [S_tl, e] at this
  unfold reprT
  rw [e]
  exact this⟩
theorem tm_extend (h : σ p = some (.lst xs)) (hl : xs.length + ys.length ≤ 16777216) (q : P .non (su σ p (.lst (xs ++ ys)))) : TOM c "list.extend" (.ref p) [.lst ys] σ P := ⟨fun X hX H K w v vs rv ra Q' fo => by
  cases rv
  obtain ⟨u, rfl, ru⟩ := repA_one ra
  obtain ⟨us, e, r1⟩ := w.on p _ h
  cases ru with
  | lst hs r2 =>
    refine cM_of mt_extend ⟨p, _, us, _, rfl, rfl, e, w.le _ _ hs, by rw [r1.length, r2.length, sizeLine_eq]; exact hl, ?_⟩
    exact fo _ _ _ H _ (Gw.write h) (w.write h (c' := .lst (xs ++ ys)) ⟨_, upd_same, r1.append r2⟩) .non q⟩
end
end Y

/-! Ycn: a chain of comparisons of any length that all hold, as a test. -/
namespace Y
open PySem PySem.Spec PyProof.Rows L2 L2H SX Z HotX
def tChN : List (R2 × L2.TE) → V → L2.TT
  | [], _ => fun _ _ _ => False
  | [(r, t)], x => fun σ H Q => t σ H fun y H1 => r x y H1 fun z H2 => ∃ k, z = .bl k ∧ Q k H2
  | (r, t) :: q :: l, x => fun σ H Q => t σ H fun y H1 => r x y H1 fun z H2 => z = .bl true ∧ tChN (q :: l) y σ H2 Q
inductive LkT (X : Cx) : List CmpOp → List Expr → List (R2 × L2.TE) → Prop
  | last {op b r t} : OpR X (compareOp op) r → PE X b t → LkT X [op] [b] [(r, t)]
  | link {op b r t o' os b' bs q l} : OpR X (compareOp op) r → PE X b t → LkT X (o' :: os) (b' :: bs) (q :: l) → LkT X (op :: o' :: os) (b :: b' :: bs) ((r, t) :: q :: l)
theorem lkT_run {X : Cx} {pos : Pos} {os : List CmpOp} {bs : List Expr} {l : List (R2 × L2.TE)} (h : LkT X os bs l) : ∀ (pins : List (Addr × Obj)) (s : Shared) (σ : L2.St) (H : Hp) (x : V) (v : Value) (Q : Bool → Hp → Prop), Inv X pins σ H s → RelV x v → tChN l x σ H Q →
    wpAny (model X.prog X.w) X.A (testChain pos v os (evalEach bs X.env)) (TP X pins σ Q) X.xe s := by
  induction h with
  | last ho hb =>
    intro pins s σ H x v Q I r1 q
    exact test_last (thn (hb.run pins s σ H _ I q) fun u s2 ⟨y, H2, I2, r2, q2⟩ => thn (ho pins s2 σ H2 x y v u _ I2 r1 r2 q2) fun d s3 ⟨z, H3, I3, r3, k, e, q3⟩ => by
      subst e
      cases r3
      exact wpAny_truthy_bool ⟨H3, I3, q3⟩)
  | link ho hb _ ih =>
    intro pins s σ H x v Q I r1 q
    exact test_link (thn (hb.run pins s σ H _ I q) fun u s2 ⟨y, H2, I2, r2, q2⟩ => thn (ho pins s2 σ H2 x y v u _ I2 r1 r2 q2) fun d s3 ⟨z, H3, I3, r3, e, q3⟩ => by
      subst e
      cases r3
      exact wpAny_truthy_bool (ite_tt (ih pins s3 σ H3 y u Q I3 r2 q3)))
theorem pt_chainN {X : Cx} {a b b' : Expr} {ta : L2.TE} {op op' : CmpOp} {os : List CmpOp} {bs : List Expr} {l : List (R2 × L2.TE)} {pos : Pos} (ha : PE X a ta) (h : LkT X (op :: op' :: os) (b :: b' :: bs) l)
    (hm : lastMarks (op :: op' :: os) (b :: b' :: bs) = false) : PT X (.Compare a (op :: op' :: os) (b :: b' :: bs) pos) (fun σ H Q => ta σ H fun x H1 => tChN l x σ H1 Q) :=
  ⟨fun pins s σ H Q I q => isTrue_chain (thn (ha.run pins s σ H _ I q) fun v s1 ⟨x, H1, I1, r1, q1⟩ => lkT_run h pins s1 σ H1 x v Q I1 r1 q1) hm⟩
/-- the links of a chain that holds -/
inductive TrC (c : Ct) (ρ : EnvT) (σ : Sg) : DT → List CmpOp → List Expr → Prop
  | last {x y o b} : TV c b ρ σ y → PO2 c (compareOp o) x y σ (.bl true) → TrC c ρ σ x [o] [b]
  | link {x y o b o' os b' bs} : TV c b ρ σ y → PO2 c (compareOp o) x y σ (.bl true) → TrC c ρ σ y (o' :: os) (b' :: bs) → TrC c ρ σ x (o :: o' :: os) (b :: b' :: bs)
section
variable {c : Ct} {ρ : EnvT} {σ : Sg}
def lkL (X : Cx) : List CmpOp → List Expr → List (R2 × L2.TE)
  | o :: os, b :: bs => (cO X (compareOp o), cE X b) :: lkL X os bs
  | _, _ => []
theorem trc_lk {x : DT} {os : List CmpOp} {bs : List Expr} (h : TrC c ρ σ x os bs) (X : Cx) : LkT X os bs (lkL X os bs) := by
  induction h with
  | last _ _ => exact .last cO_or cE_pe
  | link _ _ _ ih => exact .link cO_or cE_pe ih
theorem trc_run {x : DT} {os : List CmpOp} {bs : List Expr} (h : TrC c ρ σ x os bs) : ∀ X, Con c X → ∀ (E : TX) st H K, Wd c.K H σ K → REnv c.K H ρ st → XC c H σ K st E → ∀ v, Rep c.K H v x → ∀ Q' : Bool → Hp → Prop, (∀ H' K', Gw H σ K H' σ K' → Wd c.K H' σ K' → Q' true K') → tChN (lkL X os bs) v st K Q' := by
  induction h with
  | last hb ho =>
    rename_i x y o b
    intro X hX E st H K w rr xc v r1 Q' f
    refine (hb.to (Q := fun d σ' => d = y ∧ σ' = σ) ⟨rfl, rfl⟩).run X hX st H K w rr xc _ fun u d2 σ2 H2 K2 s2 w2 r2 ⟨z1, z2⟩ => ?_
    subst z1 z2
    refine ho.run X hX H2 K2 w2 v u (r1.same s2.b) r2 _ fun q1 H3 K3 s3 w3 r3 => ?_
    cases r3
    exact ⟨true, rfl, f H3 K3 (s2.trans s3) w3⟩
  | link hb ho _ ih =>
    rename_i x y o b o' os b' bs _
    intro X hX E st H K w rr xc v r1 Q' f
    refine (hb.to (Q := fun d σ' => d = y ∧ σ' = σ) ⟨rfl, rfl⟩).run X hX st H K w rr xc _ fun u d2 σ2 H2 K2 s2 w2 r2 ⟨z1, z2⟩ => ?_
    subst z1 z2
    refine ho.run X hX H2 K2 w2 v u (r1.same s2.b) r2 _ fun q1 H3 K3 s3 w3 r3 => ?_
    cases r3
    have g3 := s2.trans s3
    exact ⟨rfl, ih X hX E st H3 K3 w3 (rr.same g3.b) (xc.next g3) u (r2.same s3.b) Q' fun H4 K4 s4 w4 => f H4 K4 (g3.trans s4) w4⟩
theorem tb_chainN {a b b' : Expr} {o o' : CmpOp} {os : List CmpOp} {bs : List Expr} {x : DT} {pos : Pos} (ha : TV c a ρ σ x) (h : TrC c ρ σ x (o :: o' :: os) (b :: b' :: bs))
    (hm : lastMarks (o :: o' :: os) (b :: b' :: bs) = false := by with_unfolding_all rfl) : TB c (.Compare a (o :: o' :: os) (b :: b' :: bs) pos) ρ σ true := ⟨fun {Q E} q => ⟨fun X hX st H K w rr xc Q' f => by
  refine cT_of (pt_chainN cE_pe (trc_lk h X) hm) ?_
  refine (ha.to (Q := fun d σ' => d = x ∧ σ' = σ) ⟨rfl, rfl⟩).run X hX st H K w rr xc _ fun v1 d1 σ1 H1 K1 s1 w1 r1 ⟨z1, z2⟩ => ?_
  subst z1 z2
  exact trc_run h X hX E st H1 K1 w1 (rr.same s1.b) (xc.next s1) v1 r1 Q' fun H2 K2 s2 w2 => f _ _ _ H2 K2 (s1.trans s2) w2 rfl q⟩⟩
end
end Y

/-! Ydg: d.get(k); a dict comprehension whose keys may come again. -/
namespace Y
open PySem PySem.Spec PyProof.Rows L2 SX Z
section
variable {c : Ct} {ρ : EnvT} {σ : Sg} {x d : DT} {k : DK} {kvs : List (DK × DT)} {tg iter kx vx : Expr} {scope : Scope} {pos : Pos} {own : List (Str × Nat)} {t : TgS}
/-- d.get(k) -/
theorem pm_get1 (hx : DiT σ x kvs) : POM c "dict.get" x [dk k] σ ((dvl kvs k).getD .non) := ⟨fun {Q} q => ⟨fun X hX H K w v vs rv ra Q' fo => by
  have hu := con_room hX
  cases hX
  obtain ⟨u, rfl, rk⟩ := repA_one ra
  obtain ⟨a, ws, rfl, q1, r1⟩ := hx.now w rv
  have ek := rk.key
  subst ek
  intro pins s st v2 us I r2 r3
  obtain ⟨z1, rfl, y1⟩ := vals1 r3
  cases r2
  refine d_get1 (by omega) I (.inl ⟨ws, keyD k, q1, rfl, rfl⟩) y1 fun w' s3 I3 rw' => ?_
  obtain ⟨i1, i2⟩ := r1.val k
  cases hd : dvl kvs k with
  | some dd =>
    obtain ⟨vv, e1, e2⟩ := i1 dd hd
    rw [e1] at rw'
    exact ⟨vv, K, I3, rw', fo _ _ σ H K Gw.refl w e2 (by rw [hd] at q; exact q)⟩
  | none =>
    rw [i2 hd] at rw'
    exact ⟨.non, K, I3, rw', fo _ _ σ H K Gw.refl w .non (by rw [hd] at q; exact q)⟩⟩⟩
/-- {k: v for ..}, any keys -/
theorem tv_dcL [Calm c] {α : Type} {l : List α} {g vf : α → DT} {kf : α → DK} {ρ' : α → EnvT} (htg : TgOk (c.blk scope) tg t) (hb : blkC c.N c.sc scope own = true) (hsub : ∀ j ∈ t.slots, j ∈ own.map (·.2)) (hi : TVI c tg iter ρ σ (l.map g)) (hn : l.length ≤ 1000000)
    (hst : ∀ a ∈ l, stT t (g a) (wipeT ρ (own.map (·.2))) = some (ρ' a)) (hs : ∀ a ∈ l, TV (c.blk scope) kx (ρ' a) σ (dk (kf a)) ∧ TV (c.blk scope) vx (ρ' a) σ (vf a)) (hf : ∀ env x, foldedSetIterable iter env x = pure x := by intro _ _; rfl) :
    TV c (.DictComp kx vx [⟨tg, iter, [], 0⟩] scope pos) ρ σ (.dct (l.foldl (fun acc a => putT acc (kf a) (vf a)) [])) := ⟨fun {Q E} q => te_frz (te_dcC htg hb hsub (hi.to ⟨by rw [List.length_map]; exact hn, fun i acc σ2 => σ2 = σ ∧ acc = (l.take i).foldl (fun acc a => putT acc (kf a) (vf a)) [], ⟨rfl, by simp⟩, fun i d acc σ2 hd ⟨e1, e2⟩ => by
    subst e1 e2
    rw [List.getElem?_map] at hd
    obtain ⟨a, ha, rfl⟩ := Option.map_eq_some_iff.mp hd
    have hm : a ∈ l := List.mem_of_getElem? ha
    have tk : l.take (i + 1) = l.take i ++ [a] := by rw [List.take_succ, ha]; rfl
    refine ⟨ρ' a, hst a hm, ?_⟩
    show TE _ _ _ _ _ _
    exact (hs a hm).1.to ⟨kf a, rfl, (hs a hm).2.to ⟨rfl, by rw [tk, List.foldl_append]; rfl⟩⟩, fun D acc σ2 hD _ ⟨e1, e2⟩ => by
    subst e1 e2
    refine ⟨D, _, rfl, su_same, ?_⟩
    rw [sd_su hD, List.take_of_length_le (by rw [List.length_map]; exact Nat.le_refl _)]
    exact q⟩) hf)⟩
end
end Y

/-! Ynd: x not in l, for a list of data. -/
namespace Y
open PySem PySem.Spec PyProof.Rows L2 SX Z
section
variable {c : Ct} {σ : Sg} {x : DT} {ys : List DT}
theorem po_notInT {n m : Nat} (sm : ∃ ob, c.base.get? sysModules = some ob) (h1 : Sh n x) (h2 : Sh m (.lst ys)) (hn : n ≤ 60) (hm : m ≤ 64) : PO2 c (compareOp .NotIn) x (.lst ys) σ (.bl (!(toPyA ys).any fun z => PyData.eqv z (toPy x))) := ⟨fun X hX H K w v u rv ru Q k => by
  have hX' := hX
  cases hX' with
  | mk _ k' Wx fa hpp hrH hcf hh hp' htk hf' hN hU hst =>
    obtain ⟨p1, _, d1⟩ := sh_f n x h1
    have p2 := (sh_f m _ h2).1
    have s1 : SeqAt.shaped (toPy x) = true := sh_sh h1 (by omega)
    have s2 : SeqAt.shaped (toPy (.lst ys)) = true := sh_sh h2 hm
    have hu := hunits hrH
    intro pins s st v' u' I r1 r2
    obtain ⟨as, q1, _⟩ := Rep.reads w I sm x _ _ rv p1 r1
    obtain ⟨bs, q2, _⟩ := Rep.reads w I sm (.lst ys) _ _ ru p2 r2
    exact SeqAt.notIn_list_reads q2 q1 (SeqAt.canLay_of_shaped s2) (SeqAt.canLay_of_shaped s1) (by
      have := Nat.min_le_right (PyData.depthAll (toPyA ys)) (toPy x).depth
      omega) ⟨.bl _, K, I, rfl, k _ H K Gw.refl w (.bl _)⟩⟩
end
end Y

/-! Ysw: x[i], y[j] = a tuple, for lists that are cells. -/
namespace Y
open PySem PySem.Spec PyProof.Rows L2 SX Z
section
variable {c : Ct} {ρ : EnvT} {σ : Sg} {D : EndT} {e a b a2 b2 : Expr} {pos p1 p2 pt : Pos} {kt : Nat}
theorem ts_setItem2 (h : TE c e ρ σ (fun d σ1 => ∃ u v, d = .tup [u, v] ∧ TE c a ρ σ1 (fun o σ2 => TE c b ρ σ2 (fun i σ3 => ∃ p xs k j, o = .ref p ∧ i = .int k ∧ σ3 p = some (.lst xs) ∧ ixN xs.length k = some j ∧
      TE c a2 ρ (su σ3 p (.lst (xs.set j u))) (fun o2 σ4 => TE c b2 ρ σ4 (fun i2 σ5 => ∃ p2 ys k2 j2, o2 = .ref p2 ∧ i2 = .int k2 ∧ σ5 p2 = some (.lst ys) ∧ ixN ys.length k2 = some j2 ∧ D.nx ρ (su σ5 p2 (.lst (ys.set j2 v)))) (xD D ρ)) (xD D ρ)) (xD D ρ)) (xD D ρ)) (xD D ρ))
    (ha : ∀ env v, assign (.Subscript a b p1) env v = (do
      let ov ← holding [v] (eval a env)
      let iv ← holding [v, ov] (eval b env)
      standAt p1
      holding [v, ov, iv] (setItem ov iv v)
      release [v, ov, iv] []) := by intro _ _; rfl)
    (ha2 : ∀ env v, assign (.Subscript a2 b2 p2) env v = (do
      let ov ← holding [v] (eval a2 env)
      let iv ← holding [v, ov] (eval b2 env)
      standAt p2
      holding [v, ov, iv] (setItem ov iv v)
      release [v, ov, iv] []) := by intro _ _; rfl)
    (hsw : ∀ env, swapsWithSole [.Tuple [.Subscript a b p1, .Subscript a2 b2 p2] kt pt] e pos.line env = pure false := by intro _; rfl) (hst : ∀ env, swappedStores [.Tuple [.Subscript a b p1, .Subscript a2 b2 p2] kt pt] e env = pure none := by intro _; rfl)
    (hae : ∀ env, (assignEach [.Subscript a b p1, .Subscript a2 b2 p2] env).map (·.2) = assign (.Subscript a b p1) env :: (assignEach [.Subscript a2 b2 p2] env).map (·.2) := by intro _; rfl)
    (hae2 : ∀ env, (assignEach [.Subscript a2 b2 p2] env).map (·.2) = assign (.Subscript a2 b2 p2) env :: (assignEach [] env).map (·.2) := by intro _; rfl)
    (hn : ∀ env, (assignEach [.Subscript a b p1, .Subscript a2 b2 p2] env).length = 2 := by intro _; rfl) (hfi : ∀ env, (assignEach [.Subscript a b p1, .Subscript a2 b2 p2] env).findIdx? (·.1) = none := by intro _; rfl)
    (has : ∀ env, (assignEach [.Tuple [.Subscript a b p1, .Subscript a2 b2 p2] kt pt] env).map (·.2) = [assign (.Tuple [.Subscript a b p1, .Subscript a2 b2 p2] kt pt) env] := by intro _; rfl) : TS c (.Assign [.Tuple [.Subscript a b p1, .Subscript a2 b2 p2] kt pt] e pos) ρ σ D := ⟨fun X hX st H K w re D' f => by
  have hX' := hX
  cases hX' with
  | mk _ k' Wx fa hpp hrH hcf hh hp' ht hf hN hU hst' =>
    refine cS_of (ps_asg cE_pe (pg_tupQ (fun e => (hcf e).1) hh (pgs_cons (pg_sub cE_pe cE_pe set_list (ha _)) (pgs_cons (pg_sub cE_pe cE_pe set_list (ha2 _)) pgs_nil (hae2 _)) (hae _)) (hn _) (hfi _)) (hsw _) (hst _) (has _)) ?_
    refine h.run X hX st H K w re (f.xc re) _ fun v d σ1 H1 K1 g1 w1 rv ⟨u, v2, e0, h1⟩ => ?_
    subst e0
    obtain ⟨ad, vs, rfl, q1, r1⟩ := rep_tup w1 rv
    obtain ⟨x1, x2, rfl, rx1, rx2⟩ := repA_two r1
    refine ⟨ad, _, rfl, q1, rfl, x1, [x2], rfl, ?_⟩
    refine h1.run X hX st H1 K1 w1 (re.same g1.b) ((f.next g1).xc (re.same g1.b)) _ fun o dO σ2 H2 K2 g2 w2 ro h2 => ?_
    have g12 := g1.trans g2
    refine h2.run X hX st H2 K2 w2 (re.same g12.b) ((f.next g12).xc (re.same g12.b)) _ fun i di σ3 H3 K3 g3 w3 ri ⟨p, xs, k, j, e1, e2, e3, e4, h3⟩ => ?_
    subst e1 e2
    cases ro
    cases ri
    have g := g12.trans g3
    obtain ⟨ws, e5, ra⟩ := w3.on p _ e3
    refine ⟨p, ws, k, j, rfl, rfl, e5, by rw [ra.length]; exact e4, x2, [], rfl, ?_⟩
    refine h3.run X hX st H3 _ (w3.write e3 (c' := .lst (xs.set j u)) ⟨_, upd_same, RepA.set (rx1.same (g2.trans g3).b) j ra⟩) (re.same g.b) ((f.next (g.trans (Gw.write e3))).xc (re.same g.b)) _ fun o2 dO2 σ5 H5 K5 g5 w5 ro2 h4 => ?_
    have g45 := (g.trans (Gw.write e3)).trans g5
    refine h4.run X hX st H5 K5 w5 (re.same g45.b) ((f.next g45).xc (re.same g45.b)) _ fun i2 di2 σ6 H6 K6 g6 w6 ri2 ⟨p2', ys, k2, j2, e6, e7, e8, e9, q⟩ => ?_
    subst e6 e7
    cases ro2
    cases ri2
    have g46 := g45.trans g6
    obtain ⟨ws2, e10, ra2⟩ := w6.on p2' _ e8
    refine ⟨p2', ws2, k2, j2, rfl, rfl, e10, by rw [ra2.length]; exact e9, rfl, ?_⟩
    exact f.nx _ _ _ H6 _ (g46.trans (Gw.write e8)) (w6.write e8 (c' := .lst (ys.set j2 v2)) ⟨_, upd_same, RepA.set ((rx2.same (g2.trans g3).b).same (g5.trans g6).b) j2 ra2⟩) (re.same g46.b) q⟩
end
end Y

/-! Yls: list(text) as a cell. -/
namespace Y
open PySem PySem.Spec PyProof.Rows L2 SX Z
theorem call_listS {X : Cx} (hc : X.calm = true) : CallR X (.type "list") (fun xs H Q => ∃ a : List Nat, xs = [V.str (S a)] ∧ a.length ≤ 16777216 ∧ ∀ z, H z = none → Q (.ref z) (upd H z (.lst (onesV a)))) := fun pins s σ H xs us Q I ru ⟨a, e, hz, q⟩ => by
  subst e
  obtain ⟨u, rfl, t, rfl⟩ := vals1 ru
  have hn : (S a).cps.size ≤ sizeLine := by rw [sizeLine_eq]; simpa [S] using hz
  refine call_list_str (hn := hn) (I.ok.hd hc) (S a) t fun h' tk acc c' hk hS hacc => ?_
  have hD := I.hok.fresh (Nat.le_refl s.heap.objs.size)
  exact ⟨.ref s.heap.objs.size, _, I.laid (t' := tk) (o := .lst (onesV a)) hk (Nat.le_refl _) ⟨by unfold onesV; rw [List.length_map, sizeLine_eq]; exact hz, acc.toList, c', vals_ones hacc, by rw [Array.toArray_toList]; exact hS⟩, rfl, q _ hD⟩
section
variable {c : Ct} {ρ : EnvT} {σ : Sg} {Q : DT → Sg → Prop} {E : TX} {a : Expr} {p pos : Pos}
theorem te_listSC [Calm c] (hg : GlS c "list") (hm : c.mg "list" = none) (h : TE c a ρ σ (fun x σ1 => ∃ t : List Nat, x = .str t ∧ t.length ≤ 16777216 ∧ ∀ q, σ1 q = none → Q (.ref q) (su σ1 q (.lst (ones t)))) E)
    (he : ∀ env, starEach [a] env = (false, eval a env) :: starEach [] env := by intro _; rfl) (hpl : ∀ pos env, (backTo pos (starEach [] env)).any (·.1) = false := by intro _ _; rfl) : TE c (.Call (.Name "list" p) [a] [] pos) ρ σ Q E := ⟨fun X hX st H K w r xc Q' fo => by
  have hc := con_calm hX
  have hX' := hX
  cases hX'
  refine cE_of (pe_callTy (call_listS hc) hg hm (by exact bt_list) (cA_pa (e := [a])) (by decide) (by decide) (he _) (hpl _ _)) ?_
  refine (ta_cons (QA := fun ds σ1 => ∃ x t, ds = [x] ∧ x = .str t ∧ t.length ≤ 16777216 ∧ ∀ q, σ1 q = none → Q (.ref q) (su σ1 q (.lst (ones t)))) (h.imp fun x σ1 ⟨t, h1, h2⟩ => ta_nil ⟨x, t, rfl, h1, h2⟩) he).run X hX st H K w r xc _ fun vs ds σ1 H1 K1 s1 w1 r1 ⟨x, t, ed, hx, hz, q⟩ => ?_
  subst ed hx
  obtain ⟨u, rfl, ru⟩ := repA_one r1
  cases ru
  refine ⟨t, rfl, hz, fun z hz2 => ?_⟩
  exact fo _ _ _ H1 _ (s1.trans (Gw.newC hz2)) ((w1.push (o := .lst (onesV t)) hz2).add (c := .lst (ones t)) (none_of w1.le hz2) ⟨_, upd_same, rep_ones t⟩) (.ref z) (q z (w1.free hz2))⟩
end
end Y

/-! Yne: a list, perhaps one that changes, != []. -/
namespace Y
open PySem PySem.Spec PyProof.Rows L2 SX Z
section
variable {c : Ct} {σ : Sg} {x : DT} {xs : List DT}
theorem po_neNilC (hx : LsT σ x xs) : PO2 c (compareOp .NotEq) x (.lst []) σ (.bl (!xs.isEmpty)) := ⟨fun X hX H K w v u rv ru Q k => by
  have hu := con_room hX
  have hX' := hX
  cases hX'
  obtain ⟨a, vs, rfl, q1, r1⟩ := hx.now w rv
  cases ru with
  | lst hb rb =>
    cases rb
    intro pins s st v1 v2 I y1 y2
    cases y1
    cases y2
    obtain ⟨its, ra, pl, _⟩ := I.list q1
    obtain ⟨its2, ra2, pl2, _⟩ := I.list (SqL.of (w.le _ _ hb))
    cases ra2
    have e1 : its.length = xs.length := ra.length.symm.trans r1.length
    have q0 := k (.bl (!xs.isEmpty)) H K Gw.refl w (.bl _)
    cases its with
    | nil =>
      have e2 : xs.isEmpty = true := by
        cases xs with
        | nil => rfl
        | cons _ _ => cases e1
      rw [e2] at q0
      exact SeqAt.RcNeAt.lists (e := fun _ => true) pl.isList pl2.isList rfl (by omega) (fun j h1 _ => absurd h1 (Nat.not_lt_zero _)) _ _ _ _ ⟨.bl false, K, I, rfl, q0⟩
    | cons _ _ =>
      have e2 : xs.isEmpty = false := by
        cases xs with
        | nil => cases e1
        | cons _ _ => rfl
      rw [e2] at q0
      exact SeqAt.RcNeAt.lists_lengths pl.isList pl2.isList (by simp) (by omega) _ _ _ _ ⟨.bl true, K, I, rfl, q0⟩⟩
end
end Y

/-! Ylr: a list comprehension with effects, given to a local name. -/
namespace Y
open PySem PySem.Spec L2 SX Z
section
variable {c : Ct} {ρ : EnvT} {σ : Sg} {D : EndT} {r : List Stmt} {tg iter elt : Expr} {scope : Scope} {pos : Pos} {own : List (Str × Nat)} {t : TgS} {x : Str} {p1 p2 : Pos}
theorem tk_setLcR {α : Type} {f : α → DT} {Pa : α → Prop} {R : Nat → Sg → Prop} {i : Nat} (hy : c.N[i]? = some x) (hyl : c.sc.names.lookup x = some .local) (hln : (p1.line == pos.line) = true) (hown : (scope.names.any fun (n, k) => n == x && (k == .local || k == .cell)) = false)
    (hil : i < ρ.length) (htg : TgOk (c.blk scope) tg t) (hb : blkC c.N c.sc scope own = true) (hsub : ∀ j ∈ t.slots, j ∈ own.map (·.2))
    (hi : TI c tg iter ρ σ (fun ds σ1 => ds.length ≤ 1000000 ∧ R 0 σ1 ∧ (∀ i d σ2, ds[i]? = some d → R i σ2 → ∃ ρ', stT t d (wipeT ρ (own.map (·.2))) = some ρ' ∧ TE (c.blk scope) elt ρ' σ2 (fun y σ3 => ∃ a, y = f a ∧ Pa a ∧ R (i + 1) σ3) TX0) ∧
      ∀ (l : List α) σ2, l.length = ds.length → (∀ a ∈ l, Pa a) → R ds.length σ2 → TBk c r (ρ.set i (some (.lst (l.map f)))) σ2 D) (xD D ρ)) (hf : ∀ env x, foldedSetIterable iter env x = pure x := by intro _ _; rfl) :
    TBk c (.Assign [.Name x p1] (.ListComp elt [⟨tg, iter, [], 0⟩] scope pos) p2 :: r) ρ σ D := by
  refine tk_cons (ts_setLc (D := { D with nx := fun ρ' σ' => TBk c r ρ' σ' D }) hy hyl hln hown htg hb hsub ⟨fun X hX st H K w r xc R' k => hi.run X hX st H K w r xc R' fun ds σ1 Jt G Yh H1 K1 g1 w1 ⟨hn, r0, hs, hq⟩ => k ds σ1 Jt G Yh H1 K1 g1 w1 ?_⟩ hf)
  refine ⟨hn, fun i acc σ2 => ∃ l : List α, acc = l.map f ∧ l.length = i ∧ (∀ a ∈ l, Pa a) ∧ R i σ2, ⟨[], rfl, rfl, (fun _ h => nomatch h), r0⟩, ?_, ?_⟩
  · rintro i d acc σ2 hd ⟨l, rfl, hl, hp, hr⟩
    obtain ⟨ρ', h1, h2⟩ := hs i d σ2 hd hr
    refine ⟨ρ', h1, TE.imp h2 ?_⟩
    rintro y σ3 ⟨a, rfl, pa, r3⟩
    refine ⟨l ++ [a], by simp, by simp [hl], fun b hb => ?_, r3⟩
    rcases List.mem_append.mp hb with z | z
    · exact hp b z
    · rw [List.mem_singleton.mp z]; exact pa
  · rintro p acc σ2 hD _ ⟨l, rfl, hl, hp, hr⟩
    exact tk_frz (i := i) (by rw [List.getElem?_set_self hil]) su_same (by rw [List.set_set, sd_su hD]; exact hq l σ2 hl hp hr)
end
end Y

/-! Yrb: repr of a bool, of None. -/
namespace Y
open PySem PySem.Spec L2 SX Z
section
variable {c : Ct} {σ : Sg}
theorem pf_reprB {b : Bool} : POF c (.builtin "repr") [.bl b] σ (.str (sOf (if b then "True" else "False"))) := ⟨fun X hX H K w vs ra Q k => by
  have hX' := hX
  cases hX'
  obtain ⟨v, rfl, rv⟩ := repA_one ra
  cases rv
  intro pins st s0 us I r
  obtain ⟨u, rfl, ru⟩ := vals1 r
  have ru : u = .bool b := ru
  subst ru
  refine PySem.P.repr_of_bool ⟨.str _, K, I.tok _, ⟨_, rfl⟩, k _ H K Gw.refl w ?_⟩
  have := Rep.str (F := X.K) (H := H) (sOf (if b then "True" else "False"))
  rwa [S_sOf] at this⟩
theorem pf_reprN : POF c (.builtin "repr") [.non] σ (.str (sOf "None")) := ⟨fun X hX H K w vs ra Q k => by
  have hX' := hX
  cases hX'
  obtain ⟨v, rfl, rv⟩ := repA_one ra
  cases rv
  intro pins st s0 us I r
  obtain ⟨u, rfl, ru⟩ := vals1 r
  have ru : u = .none := ru
  subst ru
  refine PySem.P.repr_of_none ⟨.str _, K, I.tok _, ⟨_, rfl⟩, k _ H K Gw.refl w ?_⟩
  have := Rep.str (F := X.K) (H := H) (sOf "None")
  rwa [S_sOf] at this⟩
end
end Y

/-! Yih: isinstance of the handled exception with a tuple of own classes. -/
namespace Y
open PySem PySem.Spec PyProof.Rows L2 L2H HotX SX Z
theorem kitAny_no {K : PySem.W.Frag} {t : Value} : ∀ {cs : List Addr}, (∀ D ∈ cs, PySem.W.kitOne K t (.ref D) = some false) → PySem.W.kitAny K t (cs.map Value.ref) = some false
  | [], _ => rfl
  | D :: cs, h => by
    rw [List.map_cons]
    unfold PySem.W.kitAny
    rw [h D List.mem_cons_self]
    exact kitAny_no fun x hx => h x (List.mem_cons_of_mem _ hx)
theorem rep_refs {F : PySem.W.Frag} {H : Hp} : ∀ {cs : List Addr} {vs : List V}, RepA F H vs (cs.map DT.ref) → vs = cs.map V.ref
  | [], _, .nil => rfl
  | _ :: _, _, .cons r t => by
    cases r
    rw [rep_refs t]
    rfl
theorem vals_refs2 : ∀ {cs : List Addr} {us : List Value}, Vals (cs.map V.ref) us → us = cs.map Value.ref
  | [], _, .nil => rfl
  | _ :: _, _, .cons r t => by
    cases r
    rw [vals_refs2 t]
    rfl
section
variable {c : Ct} {σ : Sg} {fs : List (Str × DT)} {C a : Addr} {oe : Obj} {d : Option Addr} {cs : List Addr}
theorem pf_isHT (hc : c.hp = some (a, oe)) (he : HotE (a, oe) C d) (Z : ExcC c.K C) (q : ∀ D ∈ cs, PySem.W.kitOne c.K (.ref C) (.ref D) = some false) : POF c (.builtin "isinstance") [.hot a d fs, .tup (cs.map DT.ref)] σ (.bl false) := ⟨fun X hX H K w vs ra Q k => by
  have hX' := hX
  cases hX' with
  | mk _ k' Wx fl hpp hrH hcf hh hp' ht hf hN hU hst =>
  have hc : hpp = some (a, oe) := hc
  obtain ⟨v, u2, rfl, rv, ru⟩ := repA_two ra
  intro pins s st us I rr
  obtain ⟨x1, x2, rfl, r1, r2⟩ := vals2 rr
  obtain ⟨rfl, ea, _⟩ := hot_inst Z (hh _ hc) he w I rv
  cases r1
  obtain ⟨b, ws, rfl, hsq, rw2⟩ := rep_tup w ru
  have hx2 : x2 = .ref b := r2
  subst hx2
  have e1 := rep_refs rw2
  subst e1
  obtain ⟨its, hv, ht2, _⟩ := I.tuple hsq
  have e2 := vals_refs2 hv
  subst e2
  obtain ⟨⟨oc, od, oda, osl⟩, hob, hcl, n, hda⟩ := ht2
  dsimp only at hcl hda
  subst hcl hda
  exact PySem.W.kia_tup (PySem.W.kitx_e Z) I.kIn ea hob (kitAny_no q) (fun z => nomatch z) fun tk => ⟨.bl false, K, I.tok tk, rfl, k _ H K Gw.refl w (.bl false)⟩⟩
end
end Y

/-! Ygf: a for loop in a generator's body. -/
namespace L2
open PySem PySem.Spec PyProof.Rows GenW
section
variable {M : Model} {A : Around} {R : GenEnd} {Y : Protocol} {n : Nat} {s₀ : Shared} {c : Code} {fs : List Frame} {s : Shared} {env : Env}
  {K : Flow → Sem PySem.Fin} {H : Value → Sem PySem.Fin} {gd : Bool → Bool} {lv : List Value → List Value}
theorem seg_For {target iter : Expr} {body orelse : List Stmt} {pos : Pos} (hs : ∀ x, foldedSetIterable iter env x = pure x)
    (h : wpAny M (A.over c fs) (eval iter env) (fun x s1 => wpAny M (A.over c fs) (pyIter x) (fun it s2 => ∀ p, Seg M A R Y n s₀ (.forLoop target it body orelse env) (M.den (.forLoop target it body orelse env))
      (.ret (fun r => ((match r with | .ok f => (.pure f : Sem Flow) | .error e => .raise e).onRaise (cameBack env)).wrap K H gd lv) none (gd false) (lv []) c p [] :: fs) s2)
      (fun x s' => Seg M A R Y n s₀ c (H x) fs s') s1) (fun x s' => Seg M A R Y n s₀ c (H x) fs s') s) :
    Seg M A R Y n s₀ c ((exec (.For target iter body orelse pos) env).wrap K H gd lv) fs s := by
  rw [exec_For]
  refine seg_bind_wrap (wpAny_standAt ?_)
  refine seg_bind_wrap (wpAny_mono h (fun x s1 h1 => ?_) fun _ _ z => z)
  refine seg_bind_wrap (wpAny_of_eq (hs x) ?_)
  refine seg_bind_wrap (wpAny_standAt ?_)
  refine seg_bind_wrap (wpAny_holding (wpAny_mono h1 (fun it s2 h2 => ?_) fun _ _ z => z))
  exact seg_call h2
end
section
variable {prog : Program} {w : World} {A : Around} {R : GenEnd} {Y : Protocol} {n : Nat} {s₀ : Shared} {fs : List Frame} {s : Shared} {env : Env}
abbrev noteS (env : Env) (x : Value) : Sem PySem.Fin := (do noteFrame x env; theTreesLotGoes x : Sem Unit).wrap (fun _ => .raise x) .raise id id
theorem seg_forLoop {target : Expr} {it : Value} {body orelse : List Stmt}
    (h : wpAny (model prog w) (A.over (.forLoop target it body orelse env) fs) (pyNext it) (fun r s1 => match r with
        | none => Seg (model prog w) A R Y n s₀ (.forLoop target it body orelse env) (.pure (.again (.block orelse env))) fs s1
        | some v => wpAny (model prog w) (A.over (.forLoop target it body orelse env) fs) (letOwnedTupleGo target it v) (fun _ s2 => wpAny (model prog w) (A.over (.forLoop target it body orelse env) fs) (assign target env v) (fun _ s3 =>
            Seg (model prog w) A R Y n s₀ (.forLoop target it body orelse env) ((execs body env).wrap (fun f => match f with
              | .next | .cont => .pure (.again (.forLoop target it body orelse env))
              | .brk => .pure (.done .next)
              | .ret v => .pure (.done (.ret v))) (noteS env) id id) fs s3)
            (fun x s' => Seg (model prog w) A R Y n s₀ (.forLoop target it body orelse env) (noteS env x) fs s') s2) (fun x s' => Seg (model prog w) A R Y n s₀ (.forLoop target it body orelse env) (noteS env x) fs s') s1)
      (fun x s' => Seg (model prog w) A R Y n s₀ (.forLoop target it body orelse env) (noteS env x) fs s') s) :
    Seg (model prog w) A R Y n s₀ (.forLoop target it body orelse env) ((model prog w).den (.forLoop target it body orelse env)) fs s := by
  show Seg _ A R Y n s₀ _ ((forTurn target it body orelse env).onRaise (fun x => do noteFrame x env; theTreesLotGoes x)) fs s
  have nt : ∀ e : Value, ((do noteFrame e env; theTreesLotGoes e : Sem Unit).bind fun _ => (.raise e : Sem PySem.Fin)) = noteS env e := fun e => Sem.bind_eq_wrap _ _
  rw [Sem.onRaise_eq_wrap]
  unfold forTurn
  refine seg_bind_wrap (wpAny_standAt ?_)
  refine seg_bind_wrap (wpAny_onRaise (wpAny_mono h (fun r s1 h1 => ?_) fun x s' hx => wpAny_standAt ?_))
  · cases r with
    | none => exact h1
    | some v =>
      refine seg_bind_wrap (wpAny_mono h1 (fun _ s2 h2 => ?_) fun x s' hx => ?_)
      · refine seg_bind_wrap (wpAny_mono h2 (fun _ s3 h3 => ?_) fun x s' hx => ?_)
        · rw [Sem.bind_eq_wrap', Sem.wrap_wrap]
          rw [Sem.wrap_congr (execs body env) _ _ (K' := fun f => match f with
            | .next | .cont => .pure (.again (.forLoop target it body orelse env))
            | .brk => .pure (.done .next)
            | .ret v => .pure (.done (.ret v))) (H' := noteS env)
            (fun f => by cases f <;> rfl)
            (fun e => by first | exact nt e | exact Sem.bind_eq_wrap _ _)]
          exact h3
        · first | exact hx | (rw [← nt x] at hx; exact hx)
      · first | exact hx | (rw [← nt x] at hx; exact hx)
  · first | exact hx | (rw [← nt x] at hx; exact hx)
end
section
variable {X : Cx} {tg : Expr}
def tGFor (wi : TI) (g : TG) (tb : TGn) : TGn := fun D ys σ H => wi σ H fun J H1 => ∃ W : Nat → Nat → List V → St → Hp → Prop, (∃ m, W 0 m ys σ H1) ∧ ∀ i m ys σ H, W i m ys σ H →
  (J.stop i H ∧ D.nx ys σ H) ∨ (J.go i H ∧ ∃ N : List V → St → Hp → Prop, (∀ ys' σ' H', N ys' σ' H' → ∃ m', m' < m ∧ W (i + 1) m' ys' σ' H') ∧ ∀ x H', J.yld i H x H' → g x σ H' fun σ2 H2 => tb { D with nx := N, ct := N, bk := D.nx } ys σ2 H2)
theorem gs_for {iter : Expr} {body : List Stmt} {wi : TI} {g : TG} {tb : TGn} {pos : Pos} (hp : PassesOwn (model X.prog X.w) X.A X.env X.xe) (hc : X.calm = true) (hi : PI X tg iter wi) (hg : PG X tg g) (hb : GSs X body tb)
    (hs : ∀ x, foldedSetIterable iter X.env x = pure x := by intro _; rfl) : GS X (.For tg iter body [] pos) (tGFor wi g tb) := by
  refine ⟨fun A S ip R n ys s₀ c fs K J gd lv s σ H D gc hn k hI ht => ?_⟩
  obtain ⟨acc0, cc0, r0, I0⟩ := hI
  refine seg_For hs ?_
  rw [gc.over]
  refine wpAny_mono (hi.run _ s σ H _ I0 ht) (fun v s1 h1 => wpAny_mono h1 (fun itv s2 h2 => ?_) fun x s' hx => k.exc n s₀ x s' hx) fun x s' hx => k.exc n s₀ x s' hx
  obtain ⟨it, fp, tn, Jt, H2, rfl, I2, T, st2, f2, W, ⟨m0, w0⟩, turn⟩ := h2
  have stat : ∀ {H' : Hp} {acc : Array Value} {cc : Nat}, (∀ b ∈ fp, H' b = none) → ∀ b ∈ fp, FpOk X ((S, lstObj acc cc) :: ip) H' b := fun {H' acc cc} hn b hb => by
    obtain ⟨_, a1, a2, a3, a4, a5⟩ := f2 b hb
    refine ⟨hn b hb, a1, a2, a3, a4, fun p hp => ?_⟩
    rcases List.mem_append.mp hp with hp | hp
    · exact a5 p (List.mem_append_left _ hp)
    · rcases List.mem_cons.mp hp with hp | hp
      · rw [hp]
        exact a5 (S, lstObj acc0 cc0) (List.mem_append_right _ List.mem_cons_self)
      · exact a5 p (List.mem_append_right _ (List.mem_cons_of_mem _ hp))
  have fpS : ∀ b ∈ fp, S ≠ b := fun b hb => (f2 b hb).2.2.2.2.2 (S, lstObj acc0 cc0) (List.mem_append_right _ List.mem_cons_self)
  intro p
  have gl := fun (kk : Result → Sem PySem.Fin) => gc_loop (k := kk) (c' := .forLoop tg (.ref it) body [] X.env) (l := lv []) (kp := []) (p := p) gc rfl rfl
  have loop : ∀ (m n : Nat) (ys : List V) (s₀ s : Shared) (i : Nat) (σ : St) (H : Hp), n + ys.length = sizeLine → W i m ys σ H → GI X S ip ys σ H s → tn i s.heap → (∀ b ∈ fp, H b = none) →
      Seg (model X.prog X.w) A R (GY X S) n s₀ (.forLoop tg (.ref it) body [] X.env) ((model X.prog X.w).den (.forLoop tg (.ref it) body [] X.env))
        (.ret (fun r => ((match r with | .ok f => (.pure f : Sem Flow) | .error e => .raise e).onRaise (cameBack X.env)).wrap K J gd lv) none (gd false) (lv []) c p [] :: fs) s := by
    intro m
    induction m using Nat.strongRecOn with
    | ind m ih =>
      intro n ys s₀ s i σ H hn w hI st fr
      have ee : ∀ (n : Nat) (s₀ : Shared) (x : Value) (s' : Shared), X.xe x s' → Seg (model X.prog X.w) A R (GY X S) n s₀ (.forLoop tg (.ref it) body [] X.env) (noteS X.env x)
          (.ret (fun r => ((match r with | .ok f => (.pure f : Sem Flow) | .error e => .raise e).onRaise (cameBack X.env)).wrap K J gd lv) none (gd false) (lv []) c p [] :: fs) s' := fun n s₀ x s' hx => by
        refine seg_wrap ?_
        rw [(gl _).over]
        refine wpAny_bind (wpAny_mono (hp x s' hx) (fun _ s'' hcb => wpAny_theTreesLotGoes ?_) fun y s'' hcb => ?_)
        · exact seg_leaf (.error x) (seg_cameBack gc k hcb)
        · exact seg_leaf (.error y) (seg_cameBack gc k hcb)
      refine seg_forLoop ?_
      rw [(gl _).over]
      obtain ⟨acc, cc, r, I⟩ := hI
      rcases turn i m ys σ H w with ⟨stop, qn⟩ | ⟨go, N, hN, step⟩
      · refine wpAny_mono (T.done X rfl rfl rfl hc i _ s σ H X.xe I (stat fr) st stop) (fun r' s4 ⟨hr, I4⟩ => ?_) fun x s' hx => ee n s₀ x s' hx
        subst hr
        refine seg_again rfl ?_
        exact seg_leaf (.ok .next) (k.ok n ys s₀ s4 .next hn ⟨σ, H, ⟨acc, cc, r, I4⟩, qn⟩)
      · refine wpAny_mono (T.item X rfl rfl rfl hc i _ s σ H X.xe I (stat fr) st go) (fun r' s4 ⟨u, hr, h4⟩ => ?_) fun x s' hx => ee n s₀ x s' hx
        subst hr
        refine wpAny_mono h4 (fun _ s5 ⟨x, H5, I5, r5, y5, st5, fr5⟩ => ?_) fun x s' hx => ee n s₀ x s' hx
        have I5' := I5.pinned (stat fr5) (T.obj _ _ st5)
        refine wpAny_mono (hg.run _ s5 σ H5 x u _ I5' r5 (step x H5 y5)) (fun _ s6 ⟨σ6, H6, I6, q6⟩ => ?_) fun x s' hx => ee n s₀ x s' hx
        have back : ∀ {ys' : List V} {σ7 : St} {H7 : Hp} {s7 : Shared}, GI X S (ip ++ pinsAt fp s5.heap) ys' σ7 H7 s7 → GI X S ip ys' σ7 H7 s7 ∧ tn (i + 1) s7.heap ∧ ∀ b ∈ fp, H7 b = none := fun {ys' σ7 H7 s7} ⟨acc7, c7, r7, I7⟩ => by
          have I7' : Inv X (((S, lstObj acc7 c7) :: ip) ++ pinsAt fp s5.heap) σ7 H7 s7 := I7
          have at7 : ∀ b ∈ fp, ∀ o, s5.heap.get? b = some o → s7.heap.get? b = some o ∧ H7 b = none := fun b hb o e => by
            have z := I7'.pin (b, o) (List.mem_append_right _ (List.mem_append_right _ (mem_pinsAt hb e)))
            exact ⟨z.1, z.2.1⟩
          refine ⟨⟨acc7, c7, r7, I7'.unpinned⟩, T.keep _ _ _ st5 fun b hb o e => (at7 b hb o e).1, fun b hb => ?_⟩
          obtain ⟨o, e, _⟩ := T.obj _ _ st5 b hb
          exact (at7 b hb o e).2
        refine hb.run A S (ip ++ pinsAt fp s5.heap) R n ys s₀ _ _ _ _ id id s6 σ6 H6 { D with nx := N, ct := N, bk := D.nx } { gl _ with ip := fun p hp => ?_ } hn ⟨fun n' ys' s₀' s3 f hn' hs => ?_, fun n' s₀' x s3 hx => ee n' s₀' x s3 hx⟩ ⟨acc, cc, r, I6⟩ q6
        · rcases List.mem_append.mp hp with hp | hp
          · exact gc.ip p hp
          · exact (fpS p.1 (of_pinsAt hp).1).symm
        cases f with
        | next =>
          obtain ⟨σ3, H3, I3, n3⟩ := hs
          obtain ⟨m', hm, w3⟩ := hN ys' σ3 H3 n3
          obtain ⟨b1, b2, b3⟩ := back I3
          exact seg_again rfl (ih m' hm n' ys' s₀' s3 (i + 1) σ3 H3 hn' w3 b1 b2 b3)
        | cont =>
          obtain ⟨σ3, H3, I3, n3⟩ := hs
          obtain ⟨m', hm, w3⟩ := hN ys' σ3 H3 n3
          obtain ⟨b1, b2, b3⟩ := back I3
          exact seg_again rfl (ih m' hm n' ys' s₀' s3 (i + 1) σ3 H3 hn' w3 b1 b2 b3)
        | brk =>
          obtain ⟨σ3, H3, I3, q3⟩ := hs
          exact seg_leaf (.ok .next) (k.ok n' ys' s₀' s3 .next hn' ⟨σ3, H3, (back I3).1, q3⟩)
        | ret v =>
          obtain ⟨v3, σ3, H3, I3, rv, q3⟩ := hs
          exact seg_leaf (.ok (.ret v)) (k.ok n' ys' s₀' s3 (.ret v) hn' ⟨v3, σ3, H3, (back I3).1, rv, q3⟩)
  exact loop m0 n ys s₀ s2 0 σ H2 hn w0 ⟨acc0, cc0, r0, I2⟩ st2 fun b hb => (f2 b hb).1
end
end L2

/-! Ygl: list(g(..)) of a generator def g, over trees; exceptions without a context, no guard known. -/
namespace Y
open PySem PySem.Spec PyProof.Rows L2 L2H HotX SX Z GenW

/-! ### the context of the body -/
def cxG (P : Program) (w : World) (F : PySem.W.Frag) (mg : Str → Option Value) (base : Heap) (N : List Str) (qual : Str) (scope : Scope) (f : Addr) (cd : Value) (A : Around) (outer : List Env) (s : Shared) (K : Hp) (E : XK) (pn : List (Addr × Obj)) : Cx :=
  { cxOf (L2N.CX P w) P w F mg base N qual scope f cd A outer s K E with
    pn := pn
    xe := fun e s' => wpAny (model P w) (A.deeper (envOfC qual scope s.heap.objs.size f cd)) (leaving (envOfC qual scope s.heap.objs.size f cd) e)
      (fun _ s2 => L2N.CX P w outer K s E e s2 ∧ ∀ p ∈ pn, s2.heap.get? p.1 = some p.2) (fun _ _ => False) s' }
/-- an exception leaves the body, what is pinned stands -/
theorem leave_pins {X : Cx} {W : WX} {E : XK} {s1 : Shared} (hs : X.stack = X.env :: X.outer) (hf : X.env.frame = some X.env.locals) (hex : X.ex = []) {E1 : Value → Shared → Prop} (hW : ∀ cls d st K, W cls d st K → E cls d K) {u : Value} (x : L2N.XE X W u s1) :
    wpAny (model X.prog X.w) X.A (leaving X.env u) (fun _ s2 => L2N.CX X.prog X.w X.outer X.H_0 X.s_0 E u s2 ∧ ∀ p ∈ X.pn, s2.heap.get? p.1 = some p.2) E1 s1 := by
  obtain ⟨e, G, sJ, ps, st, K, cls, d, rfl, J, low, ups, sky, ne, hos, gb, hw⟩ := x
  have frames : X.A.frames = some (X.env :: X.outer) := hs ▸ J.ok.frames
  have none' : ∀ b, b ∉ X.ex := fun b z => by
    rw [hex] at z
    exact absurd z (List.not_mem_nil)
  have old : ∀ b ob, X.s_0.heap.get? b = some ob → b ∉ X.fs → b ∉ frs X.stack := fun b ob q nf z => by
    cases List.mem_cons.mp (J.stkSub b z) with
    | inr y => exact nf y
    | inl y => exact absurd (y ▸ Heap.lt_size q) (Nat.not_lt.mpr J.ok.above)
  have pinned : ∀ p ∈ X.pn, G.get? p.1 = some p.2 := fun p hp => by
    have q := J.pin p (List.mem_append_left _ hp)
    refine low _ _ q.1 fun z => ?_
    cases List.mem_cons.mp (J.stkSub _ z) with
    | inl y => exact q.2.2.1 y
    | inr y => exact q.2.2.2.1 y
  have land : ∀ g, HandSPX.FlyingZ G X.outer e (L2N.Zn cls d) g → s1.heap.UpToSlots g → L2N.CX X.prog X.w X.outer X.H_0 X.s_0 E (.ref e) { s1 with heap := g } ∧ ∀ p ∈ X.pn, ({ s1 with heap := g } : Shared).heap.get? p.1 = some p.2 := fun g fly ups2 => by
    have ub : UB (frs X.outer) X.H_0 K X.s_0.heap G g := by
      constructor
      · exact fun b ob q n nf => low b ob (J.base.keep b ob q n nf (none' b)) (old b ob q nf)
      · intro b ob q nf
        obtain ⟨_, o0, q0, plain⟩ := J.ok.funs.mem nf
        obtain rfl : ob = o0 := Option.some.inj (q.symm.trans q0)
        obtain ⟨t1, q1⟩ := J.base.slot b ob q (J.ok.frf b nf) nf (none' b)
        obtain ⟨t2, q2⟩ := ups b _ q1 plain
        obtain ⟨t3, q3⟩ := ups2 b _ q2 plain
        exact ⟨t3, q3⟩
      · exact fun b ob q n => J.base.free b ob q n (none' b)
      · intro b ob q nf
        obtain ⟨ob2, q1⟩ := J.base.there b ob q (none' b)
        exact ⟨ob2, low b ob2 q1 (old b ob q nf)⟩
      · exact J.base.tups
      · exact J.base.frzs
      · exact J.base.tbls
    exact ⟨⟨e, G, K, cls, d, rfl, fly, J.inGround low, ub, ne, hos.trans J.os, gb, hW _ _ _ _ hw⟩, fun p hp => fly.1 _ _ (pinned p hp)⟩
  rw [hs] at sky
  cases sky with
  | inl z =>
    obtain ⟨z1, z2, z3, oe, vs, z4, z5, z6, z7⟩ := z
    exact PXN.leaving_firstZ L2N.Zn.steady frames z3 hf z4 z1 z2 z6 z7 z5 land
  | inr z =>
    cases z with
    | inl z => exact PXN.leaves_onZ L2N.Zn.steady frames hf z land
    | inr z => exact HandSPX.leaves_heldZ hf z land
section
variable {P : Program} {w : World} {F : PySem.W.Frag} {mg : Str → Option Value} {base : Heap} {N ps : List Str} {qual : Str} {scope : Scope} {f : Addr} {cd : Value} {A : Around} {outer : List Env} {s s1 : Shared} {K K' : Hp} {E : XK} {pn : List (Addr × Obj)}
theorem takes_cxG : L2N.Takes (cxG P w F mg base N qual scope f cd A outer s K E pn) (fun cls d _ K' => E cls d K') := fun _ _ x =>
  leave_pins (X := cxG P w F mg base N qual scope f cd A outer s K E pn) (W := fun cls d _ K' => E cls d K') (E := E) rfl rfl rfl (fun _ _ _ _ z => z) x
theorem owns_cxG : PassesOwn (model P w) (cxG P w F mg base N qual scope f cd A outer s K E pn).A (cxG P w F mg base N qual scope f cd A outer s K E pn).env (cxG P w F mg base N qual scope f cd A outer s K E pn).xe :=
  passes_of (X := cxG P w F mg base N qual scope f cd A outer s K E pn) (K := fun e s2 => L2N.CX P w outer K s E e s2 ∧ ∀ p ∈ pn, s2.heap.get? p.1 = some p.2) (E₁ := fun _ _ => False) rfl
/-- the invariant speaks neither of exceptions nor of pins -/
theorem inv_cxG {st : L2.St} {pins : List (Addr × Obj)} (J : Inv (gcxOf P w F mg base N qual scope f cd A outer s K E []) [] st K' s1)
    (h : ∀ p ∈ pn ++ pins, s1.heap.get? p.1 = some p.2 ∧ K' p.1 = none ∧ p.1 ≠ (envOfC qual scope s.heap.objs.size f cd).locals ∧ p.1 ∉ frs outer ∧ ∀ v, p.2.data ≠ .cell v) : Inv (cxG P w F mg base N qual scope f cd A outer s K E pn) pins st K' s1 := by
  obtain ⟨⟨a1, a2, a3, a4, a5, a6, a7, a8, a9, b1, b2, b3, b4, b5, b6, b7, b8, b9⟩, c1, c2, c3, c4, c5, c6, c7, _, c9, d1⟩ := J
  exact ⟨⟨a1, a2, a3, a4, a5, a6, a7, a8, a9, b1, b2, b3, b4, b5, b6, b7, b8, b9⟩, c1, c2, c3, c4, c5, c6, c7, h, c9, d1⟩
end

/-! ### what a call makes, what list(..) takes -/
/-- all is out and stands in S -/
def FinG (P : Program) (w : World) (outer : List Env) (K : Hp) (s : Shared) (S : Addr) (Q : List V → Hp → Prop) (s1 : Shared) : Prop :=
  ∃ K' ys acc cc, s1.os = s.os ∧ AllBare s1.gens ∧ Un (frs outer) [] K K' s.heap s1.heap ∧ HOk P w K' s1.heap ∧ K' S = none ∧ s1.heap.get? S = some (lstObj acc cc) ∧ Vals ys acc.toList ∧ ys.length ≤ sizeLine ∧ Q ys K'
theorem FinG.kept {P : Program} {w : World} {outer : List Env} {K : Hp} {s s1 : Shared} {S : Addr} {g : Nat} {Q : List V → Hp → Prop} (x : FinG P w outer K s S Q s1) {h : Heap} (k : ∀ b o, s1.heap.get? b = some o → h.get? b = some o) : FinG P w outer K s S Q { s1.setGen g .finished with heap := h } := by
  obtain ⟨K', ys, acc, cc, x1, x2, x3, x4, x5, x6, x7, x8, x9⟩ := x
  exact ⟨K', ys, acc, cc, x1, allBare_setGen x2 rfl, x3.trans (Un.kept k), x4.kept k, x5, k _ _ x6, x7, x8, x9⟩
/-- a run's end -/
abbrev EndG (P : Program) (w : World) (outer : List Env) (K : Hp) (s : Shared) (S a : Addr) (g : Nat) (Q : List V → Hp → Prop) (E : XK) : GenEnd := fun _ _ r s1 =>
  ((r = .ok (.ret .none) ∨ r = .ok .next) ∧ FinG P w outer K s S Q s1) ∨ ∃ e, r = .error e ∧ (L2N.CX P w outer K s E e s1 ∧ s1.heap.IsGen a g)
/-- a generator that has not begun -/
def MadeG (P : Program) (w : World) (k : Nat) (outer : List Env) (K : Hp) (s : Shared) (Q : List V → Hp → Prop) (E : XK) (u : Value) (s1 : Shared) : Prop :=
  ∃ (a : Addr) (g : Nat) (c : Code), u = .ref a ∧ (s.heap.objs.size ≤ a ∧ a < s1.heap.objs.size) ∧ s1.heap.IsGen a g ∧ s1.gens[g]? = some (.fresh c) ∧ (s1.os = s.os ∧ AllBare s1.gens ∧ s1.heap.NoLimit) ∧ (∀ b o, s.heap.get? b = some o → s1.heap.get? b = some o) ∧
    ∀ (A : Around) (S : Addr) (s2 : Shared), Room k A → A.guards = some [] → A.frames = some outer → s1.heap.objs.size ≤ S → (∀ b o, s1.heap.get? b = some o → s2.heap.get? b = some o) → (∃ cc, s2.heap.get? S = some (lstObj #[] cc)) → s2.os = s.os → AllBare s2.gens →
      Seg (model P w) A (EndG P w outer K s S a g Q E) (YItem s S a g) sizeLine s2 c ((model P w).den c) [] s2
/-- this exception ends no iterator -/
theorem no_stop {P : Program} {w : World} {F : PySem.W.Frag} {outer : List Env} {K : Hp} {s s1 : Shared} {E : XK} {e : Value} (hE : NoStop F E) (inn : F.In s1.heap) (c : L2N.CX P w outer K s E e s1) : NotStop (model P w) e s1.heap := by
  obtain ⟨a, _, K', cls, d, rfl, fly, _, _, _, _, _, h⟩ := c
  obtain ⟨oe, _, at_, z, _⟩ := fly.there
  intro B R1 R2 t ht q
  have at2 : t.heap.get? a = some oe := ht ▸ at_
  refine wpAny_bind (m := typeOf (.ref a)) (wpAny_typeOf_ref at2 ?_)
  rw [z.1]
  exact PySem.W.looks_subIn (M := model P w) inn (hE _ _ _ h) B R1 R2 t (fun _ _ y => ht ▸ y) q
section
variable {P : Program} {w : World} {outer : List Env} {K : Hp} {sc : Shared} {Q : List V → Hp → Prop} {E : XK} {A : Around}
/-- the loop behind list(g) -/
theorem drainG {R : Result → Shared → Prop} {S a : Addr} {g : Nat} {res : Value} (calm : A.handled = none) (deep : A.depth < recursionLimit) (na : S ≠ a) (ns : S ≠ cStatics)
    (fin : ∀ s1, FinG P w outer K sc S Q s1 → R (.ok (.ret res)) s1) (bad : ∀ e s1, L2N.CX P w outer K sc E e s1 → NotStop (model P w) e s1.heap ∧ R (.error e) (s1.setGen g .finished)) :
    ∀ (m : Nat) (s : Shared), s.heap.IsGen a g → s.heap.NoLimit → ∀ gs, s.gens[g]? = some gs → gs.Goes (model P w) A.in1.in1 (EndG P w outer K sc S a g Q E) (YItem sc S a g) m (.send .none) (s.setGen g .running) →
      codeAny (model P w) A (.builtin "list.extend.loop" ⟨[.ref S, .ref a, res], []⟩) R s := by
  intro m
  induction m using Nat.strongRecOn with
  | ind m ih =>
    intro s isg lim gs at_ goes
    have there := (Array.getElem?_eq_some_iff.mp at_).1
    refine codeAny_builtin PySem.F.entry_extend_loop ?_
    rw [Around.under_plainId PySem.F.plain_extend_loop]
    refine wpAny_bind (m := pyNext (.ref a)) (wpAny_gsz (n := g + 1) there (next_genG (F := fun _ _ s1 => FinG P w outer K sc S Q s1) (Er := fun e s1 => L2N.CX P w outer K sc E e s1 ∧ s1.heap.IsGen a g) calm lim deep isg at_ goes ?_ ?_ ?_))
    · intro v s1 gs1 bare y size
      obtain ⟨y1, y2, y3, y4, ⟨acc, cc, y5, y6⟩, y7⟩ := y
      have room : acc.size < sizeLine := by omega
      have kap := y7 _ (Slept.push (v := v) y5 (allBare_setGen (g := g) (allBare_setGen (g := g) y2 bare) (x := .running) rfl))
      refine wpAny_bind (m := updateSeq S (·.push v)) (wpAny_updateSeq y5 rfl (wpAny_pure ⟨plainId_quiet PySem.F.plain_extend_loop _, ?_⟩) (Nat.le_of_lt room) (by show (acc.push v).size ≤ sizeLine + 1; rw [Array.size_push]; omega))
      have stays : ∀ b o, b ≠ S → s1.heap.get? b = some o → (s1.heap.update S (Obj.mapSeq (·.push v))).get? b = some o := fun b o nb q => by
        rw [Heap.get?_update_other _ _ (Ne.symm nb)]
        exact q
      have lt1 : g < s1.gens.size := by
        have z : g + 1 ≤ (s1.setGen g gs1).gens.size := size
        rw [setGen_size] at z
        exact z
      cases m with
      | zero => exact kap.elim
      | succ m =>
        refine ih m (Nat.lt_succ_self m) { s1.setGen g gs1 with heap := s1.heap.update S (Obj.mapSeq (·.push v)) } ?_ ?_ gs1 (setGen_at lt1) kap
        · obtain ⟨o, n1, n2, q, r⟩ := y4
          exact ⟨o, n1, n2, stays a o (Ne.symm na) q, r⟩
        · obtain ⟨c0, n1, n2⟩ := y3
          exact ⟨c0, n1.at' fun o q => stays _ o (Ne.symm ns) q, n2⟩
    · exact fun s1 x h k _ => wpAny_pure (fin _ (x.kept k))
    · exact fun e s1 x => ⟨x.2, (bad e s1 x.1).1, fun _ => (bad e s1 x.1).2⟩
/-- list(g) -/
theorem call_listG {s : Shared} {k : Nat} {u : Value} {Q' : Value → Shared → Prop} {E1 : Value → Shared → Prop} (room : Room (k + 3) A) (hG : A.guards = some []) (frames : A.frames = some outer) (made : MadeG P w k outer K sc Q E u s)
    (fin : ∀ S s1, s.heap.objs.size ≤ S → FinG P w outer K sc S Q s1 → Q' (.ref S) s1)
    (bad : ∀ e s1 g, L2N.CX P w outer K sc E e s1 → NotStop (model P w) e s1.heap ∧ E1 e (s1.setGen g .finished)) : wpAny (model P w) A (call (.type "list") [u]) Q' E1 s := by
  obtain ⟨a, g, c, rfl, ⟨_, lt⟩, isg, at_, ⟨hos, bare, lim⟩, _, wake⟩ := made
  have na : s.heap.objs.size ≠ a := fun z => absurd lt (z ▸ Nat.lt_irrefl _)
  have ns : s.heap.objs.size ≠ cStatics := by
    obtain ⟨_, z, _⟩ := lim
    exact Nat.ne_of_gt z.lt
  refine callType_codes (Q₁ := fun o t => o = .ref s.heap.objs.size ∧ t = { s with heap := s.heap.push { cls := .type "list", data := .seq #[] } }) PySem.F.called_list (PySem.F.typeCall_list_1 _) PySem.F.entry_list_init
    (code_list_new _ ⟨rfl, rfl⟩) ?_
  rintro _ _ ⟨rfl, rfl⟩
  have q0 : (s.heap.push { cls := .type "list", data := .seq #[] }).get? s.heap.objs.size = some { cls := .type "list", data := .seq #[] } := Heap.get?_push_size _ rfl
  have q1 := Heap.get?_update_self (Obj.mapSeq (fun _ => (#[] : Array Value))) q0 rfl
  have q2 := Heap.get?_update_self (Obj.mapSeq (·.push Value.none)) q1 rfl
  have q3 := Heap.get?_update_self (Obj.mapSeq (·.pop)) q2 rfl
  have step : ∀ {h : Heap} (u : Obj → Obj), (∀ b o, s.heap.get? b = some o → h.get? b = some o) → ∀ b o, s.heap.get? b = some o → (h.update s.heap.objs.size u).get? b = some o := fun {h} u z b o e => by
    rw [Heap.get?_update_other _ _ (Nat.ne_of_gt (Heap.lt_size e))]
    exact z b o e
  have p0 : ∀ b o, s.heap.get? b = some o → (s.heap.push { cls := .type "list", data := .seq #[] }).get? b = some o := fun _ _ e => Heap.get?_push_of_some _ e
  have p1 := step (Obj.mapSeq (fun _ => (#[] : Array Value))) p0
  have p3 := step (Obj.mapSeq (·.pop)) (step (Obj.mapSeq (·.push Value.none)) p1)
  refine ⟨⟨_, q0, rfl⟩, PySem.F.args_list_init_2 _ _, ?_⟩
  refine wpAny_bind (m := Builtin.List.listItems _) (wpAny_bind (m := seqItems? _) (wpAny_seqItems q0 rfl (wpAny_pure ?_)))
  refine wpAny_bind (m := updateSeq _ _) (wpAny_updateSeq q0 rfl ?_)
  refine wpAny_bind (m := letGo _) (wpAny_letGo ?_)
  have tyG : ∀ {h : Heap}, (∀ b o, s.heap.get? b = some o → h.get? b = some o) → h.IsGen a g := fun z => isg.keeps z
  refine wpAny_bind (m := typeOf _) (wpAny_typeOf (Heap.IsGen.typeIs (s := { s with heap := _ }) (tyG p1)) ?_)
  have same : Builtin.List.listSameRef (.ref s.heap.objs.size) (.ref a) = false := decide_eq_false (fun z => na (by first | exact z | exact Value.ref.inj z))
  have kinds : (Value.type "generator" == Value.type "list") = false ∧ (Value.type "generator" == Value.type "tuple") = false := ⟨by decide, by decide⟩
  simp only [same, kinds.1, kinds.2, Bool.or_false, Bool.false_eq_true, if_false]
  refine wpAny_bind (wpAny_pyIter_gen (s := { s with heap := _ }) (tyG p1) (wpAny_bind (wpAny_holding ?_)))
  refine wpAny_bind (m := specialOf _ _) (wpAny_specialOf (Heap.IsGen.typeIs (s := { s with heap := _ }) (tyG p1)) PySem.F.gen_no_len ?_)
  refine wpAny_bind (m := specialOf _ _) (wpAny_specialOf (Heap.IsGen.typeIs (s := { s with heap := _ }) (tyG p1)) PySem.F.gen_no_hint (wpAny_pure ?_))
  refine wpAny_bind (m := rule _) (wpAny_rule ?_)
  refine wpAny_bind (m := Builtin.List.listTouch _) ?_
  refine wpAny_bind (m := updateSeq _ _) (wpAny_updateSeq q1 rfl ?_)
  refine wpAny_updateSeq (hz := by seq_fits) q2 rfl (wpAny_pure ⟨plainId_quiet PySem.F.plain_extend_loop _, ?_⟩)
  refine drainG (E := E) (A := A.in1) room.hd (by have := room.dp; show A.depth < _; omega) na ns (fun s1 x => ⟨rfl, fin _ s1 (Nat.le_refl _) x⟩) (fun e s1 x => bad e s1 g x) sizeLine _ (tyG p3) (lim.keeps p3) _ at_ ⟨rfl, ?_⟩
  refine wake _ _ _ ⟨room.hd, ?_, ?_⟩ hG frames (Nat.le_refl _) p3 ⟨_, q3⟩ hos (allBare_setGen (s := { s with heap := _ }) bare rfl)
  · have := room.dp
    show A.depth + 3 * k + 5 < _
    omega
  · have := room.un
    show A.units + 1 + 1 + 1 + 16 * k + 200 < _
    omega
end
end Y

/-! Ygm: the promise of a generator def, its rule, list(g(..)). -/
namespace Y
open PySem PySem.Spec PyProof.Rows L2 L2H HotX SX Z GenW
structure FnGen (P : Program) (w : World) (F : PySem.W.Frag) (mg : Str → Option Value) (base : Heap) (k : Nat) (f : Addr) (fd : FuncData) (ps : List Str) (sp : SpG) : Prop where
  len : ∀ vs K Q E, sp vs K Q E → vs.length = ps.length
  run : ∀ A : Around, Room k A → A.guards = some [] → ∀ outer s K, Env0 P w F mg base A outer s K → ∀ args us vs, Vals vs us → BindsTo s fd args (ps.zip us) → ∀ Q E, sp vs K Q E →
    codeAny (model P w) A (.call (.ref f) args) (fun r s1 => ∃ u, r = .ok (.ret u) ∧ MadeG P w k outer K s Q E u s1) s
section
variable {P : Program} {w : World} {F : PySem.W.Frag} {mg : Str → Option Value} {base : Heap} {k : Nat} {f : Addr} {fd : FuncData} {ps N : List Str} {sp : SpG}
theorem fngen_of {x qual : Str} {st : Stmt} (d : Fun F x qual st f fd) (S : GScope N ps (defScope st)) (len : ∀ vs K Q E, sp vs K Q E → vs.length = ps.length)
    (hb : ∀ (cdv : Value) (A : Around) (outer : List Env) (s : Shared) (K : Hp) (vs : List V) (Q : List V → Hp → Prop) (E : XK) (pn : List (Addr × Obj)), Room k (A.deeper (envOfC qual (defScope st) s.heap.objs.size f cdv)) → A.guards = some [] → sp vs K Q E →
      ∃ t, GSs (cxG P w F mg base N qual (defScope st) f cdv A outer s K E pn) (defBody st) t ∧ t { nx := fun ys _ K' => Q ys K', rt := fun ys v K' => v = .non ∧ Q ys K' } [] (start N vs) K) : FnGen P w F mg base (k + 1) f fd ps sp := by
  obtain ⟨oc, od, kV, doc, pm, an, cdv, ct, osl, rfl, lk, hcd⟩ := d.ex
  refine ⟨len, fun A hr hG outer s K e0 args us vs r b Q E h => ?_⟩
  have inn : F.In s.heap := e0.mod.kin.keeps fun a o z => (e0.bs a o z).1
  have lim := e0.mod.nolimit.keeps (h' := s.heap) fun a o z => (e0.bs a o z).1
  have kinds : ∀ y ∈ ps.zip us, (defScope st).names.lookup y.1 = some .local ∨ ((defScope st).names.lookup y.1 = some .cell ∧ ((cellsFrom (s.heap.objs.size + 1) (defScope st).names []).lookup y.1).isSome = true) := fun y hy =>
    (S.par y.1 (List.of_mem_zip hy).1).imp id fun q => ⟨q, PySem.W.cellsFrom_some _ _ _ (.inl q)⟩
  refine codeAny_call_generator hr.depth (inn _ _ lk) rfl S.co S.gen rfl (PySem.W.codeRec_of inn hcd) (b _ _ _ _ (wpAny_newFunctionEnv_cells S.kind kinds fun env he s1 y => ?_))
  subst he
  have keep1 := y.toInCall.keep
  have lim1 := lim.keeps keep1
  refine ⟨lim1, ?_⟩
  obtain ⟨h1, tk, es, hk⟩ := y.done
  have os1 : s1.os = s.os := by rw [es]
  have gens1 : s1.gens = s.gens := by rw [es]
  have lt1 : s.heap.objs.size < s1.heap.objs.size := y.toInCall.ns.lt
  have fin : ∀ (o : Obj) (n1 n2 : Value) (tk2 : Nat), o.cls = .type "generator" → o.data = .fields #[.int s1.gens.size 0, n1, n2] → o.slots = #[] → (∀ h : Heap, (h.push o).get? h.objs.size = some o) →
      MadeG P w (k + 1) outer K s Q E (.ref s1.heap.objs.size) { s1 with gens := s1.gens.push (.fresh (.func (defBody st) (envOfC qual (defScope st) s.heap.objs.size f cdv))), toks := tk2, heap := s1.heap.push o } := fun o n1 n2 tk2 o1 o2 o3 o4 => by
    have isg : ∀ h : Heap, h.get? s1.heap.objs.size = some o → h.IsGen s1.heap.objs.size s1.gens.size := fun _ q => ⟨o, n1, n2, q, o1, o2, o3⟩
    have nocell : ∀ v, o.data ≠ .cell v := fun v q => by rw [o2] at q; exact nomatch q
    refine ⟨s1.heap.objs.size, s1.gens.size, _, rfl, ⟨Nat.le_of_lt lt1, by show _ < (s1.heap.push o).objs.size; rw [Heap.size_push]; exact Nat.lt_succ_self _⟩, isg _ (o4 _), Array.getElem?_push_size .., ⟨os1, AllBare.push (gens1 ▸ e0.bare) rfl, lim1.keeps fun _ _ q => Heap.get?_push_of_some _ q⟩, fun b ob q => Heap.get?_push_of_some _ (keep1 b ob q), ?_⟩
    intro B T s2 hrB hGB frB geT keep2 ⟨cc, atT⟩ os2 bare2
    have keep12 : ∀ b ob, s1.heap.get? b = some ob → s2.heap.get? b = some ob := fun b ob q => keep2 b ob (Heap.get?_push_of_some _ q)
    obtain ⟨t, ht, q⟩ := hb cdv B outer s K vs Q E [(s1.heap.objs.size, o)] (hrB.deeper _) hGB h
    have J : Inv (gcxOf P w F mg base N qual (defScope st) f cdv B outer s K E []) [] (start N vs) K s2 :=
      (inv_startG S hrB.hd ⟨frB, e0.mod, e0.bs, e0.bsz, e0.funs, e0.frf, e0.hok, e0.bare⟩ (len _ _ _ _ h) r y).call' (ch := []) (os2.trans os1.symm) (Un.kept keep12) ((inv_startG (A := B) S hrB.hd ⟨frB, e0.mod, e0.bs, e0.bsz, e0.funs, e0.frf, e0.hok, e0.bare⟩ (len _ _ _ _ h) r y).hok.kept keep12) bare2 fun _ z => nomatch z
    have J1 : Inv (gcxOf P w F mg base N qual (defScope st) f cdv B outer s K E []) [] (start N vs) K s1 := inv_startG S hrB.hd ⟨frB, e0.mod, e0.bs, e0.bsz, e0.funs, e0.frf, e0.hok, e0.bare⟩ (len _ _ _ _ h) r y
    have ltT : s1.heap.objs.size < T := by
      have z : (s1.heap.push o).objs.size ≤ T := geT
      rw [Heap.size_push] at z
      exact z
    have atO : s2.heap.get? s1.heap.objs.size = some o := keep2 _ _ (o4 _)
    have new : ∀ b, s1.heap.objs.size ≤ b → K b = none ∧ b ≠ s.heap.objs.size ∧ b ∉ frs outer := fun b hb => ⟨J1.hok.fresh hb, fun z => absurd (z ▸ lt1) (Nat.not_lt.mpr hb), J1.nofs hb⟩
    have newC : ∀ b, s1.heap.objs.size ≤ b → ∀ z c, (cellsFrom (s.heap.objs.size + 1) (defScope st).names []).lookup z = some c → c ≠ b := fun b hb z c q e => by
      obtain ⟨_, ob, q1, _⟩ := J1.cell z c q
      exact absurd (e ▸ Heap.lt_size q1) (Nat.not_lt.mpr hb)
    have start0 : GI (cxG P w F mg base N qual (defScope st) f cdv B outer s K E [(s1.heap.objs.size, o)]) T [] [] (start N vs) K s2 := by
      refine ⟨#[], cc, .nil, inv_cxG J fun p hp => ?_⟩
      simp only [List.singleton_append, List.mem_cons, List.not_mem_nil, or_false] at hp
      rcases hp with rfl | rfl
      · obtain ⟨n1, n2, n3⟩ := new s1.heap.objs.size (Nat.le_refl _)
        exact ⟨atO, n1, n2, n3, nocell⟩
      · obtain ⟨n1, n2, n3⟩ := new T (Nat.le_of_lt ltT)
        exact ⟨atT, n1, n2, n3, fun _ z => nomatch z⟩
    have apart : Apart (cxG P w F mg base N qual (defScope st) f cdv B outer s K E [(s1.heap.objs.size, o)]) T :=
      ⟨Nat.le_trans (Nat.le_of_lt lt1) (Nat.le_of_lt ltT), (new T (Nat.le_of_lt ltT)).2.1, newC T (Nat.le_of_lt ltT)⟩
    have stands : ∀ {ip : List (Addr × Obj)} {ys : List V} {s3 : Shared} {st' : L2.St} {K' : Hp}, GI (cxG P w F mg base N qual (defScope st) f cdv B outer s K E [(s1.heap.objs.size, o)]) T ip ys st' K' s3 → s3.heap.IsGen s1.heap.objs.size s1.gens.size := fun ⟨_, _, _, I⟩ =>
      isg _ (I.pin (s1.heap.objs.size, o) (List.mem_append_left _ List.mem_cons_self)).1
    refine seg_func (seg_imp (R := GR (cxG P w F mg base N qual (defScope st) f cdv B outer s K E [(s1.heap.objs.size, o)]) T (fun ys v K' => v = .non ∧ Q ys K') fun e s3 => L2N.CX P w outer K s E e s3 ∧ ∀ p ∈ [(s1.heap.objs.size, o)], s3.heap.get? p.1 = some p.2)
      (Y := GY (cxG P w F mg base N qual (defScope st) f cdv B outer s K E [(s1.heap.objs.size, o)]) T) ?_ ?_ sizeLine ?_)
    · intro n t0 res s3 z
      match res, z with
      | .error e, z => exact .inr ⟨e, rfl, z.1, isg _ (z.2 _ List.mem_cons_self)⟩
      | .ok (.ret u), ⟨ys, v, ip, st', K', n1, G, rv, ev, q'⟩ =>
        subst ev
        obtain rfl : u = Value.none := rv
        obtain ⟨g1, _, _, acc, c3, g2, g3⟩ := G.at
        obtain ⟨_, _, _, I⟩ := G
        exact .inl ⟨.inl rfl, K', ys, acc, c3, I.os, I.bare, I.base, I.hok, g1, g3, g2, by omega, q'⟩
      | .ok .next, z => exact z.elim
      | .ok .brk, z => exact z.elim
      | .ok .cont, z => exact z.elim
    · intro n t0 v s3 kap kap' imp z
      obtain ⟨ys, v', ip, st', K', n1, n2, G, n3⟩ := z
      have isg3 := stands G
      obtain ⟨_, _, _, acc, c3, g2, g3⟩ := G.at
      obtain ⟨_, _, _, I⟩ := G
      have size : acc.size = ys.length := by
        have z := g2.length
        rw [Array.length_toList] at z
        exact z.symm
      exact ⟨I.os, I.bare, I.nolimit, isg3, ⟨acc, c3, g3, size ▸ n1⟩, fun s4 z => imp _ _ (n3 s4 z)⟩
    · refine ht.run B T [] _ sizeLine [] s2 _ [] _ _ id id s2 (start N vs) K _ ⟨fun p hp => ?_, (fun _ z => nomatch z), apart, over_func, rfl, rfl, rfl⟩ (Nat.add_zero _) ⟨?_, ?_⟩ start0 q
      · rw [List.mem_singleton.mp hp]
        exact Nat.ne_of_lt ltT
      · intro n ys t0 s3 fl n1 z
        match fl, z with
        | .next, ⟨st', K', G, q'⟩ => exact seg_end (.ok (.ret .none)) ⟨ys, .non, [], st', K', n1, G, rfl, rfl, q'⟩
        | .ret u, ⟨v, st', K', G, rv, q'⟩ => exact seg_end (.ok (.ret u)) ⟨ys, v, [], st', K', n1, G, rv, q'.1, q'.2⟩
        | .brk, ⟨_, _, _, z⟩ => exact z.elim
        | .cont, ⟨_, _, _, z⟩ => exact z.elim
      · intro n t0 e s3 z
        refine seg_wrap ?_
        rw [over_func]
        exact wpAny_mono (E := fun _ _ => False) z (fun _ _ z' => seg_end (.error e) z') fun _ _ z' => z'.elim
  exact ⟨_, rfl, fin _ _ _ _ rfl rfl rfl fun h => Heap.get?_push_size _ rfl⟩
end
end Y

/-! Ygn: generator defs over trees: their bodies, list(g(..)). -/
namespace Y
open PySem PySem.Spec PyProof.Rows L2 L2H SX Z GenW
def cG (X : Cx) (b : List Stmt) : TGn := fun D ys st K => ∀ (A : Around) (S : Addr) (ip : List (Addr × Obj)) (R : GenEnd) (n : Nat) (t0 : Shared) (c0 : Code) (fs : List Frame) (J : Flow → Sem PySem.Fin) (L : Value → Sem PySem.Fin) (gd : Bool → Bool) (lv : List Value → List Value) (s : Shared),
  GC X S ip A c0 fs gd → n + ys.length = sizeLine → GK X S ip A R c0 fs J L D → GI X S ip ys st K s → Seg (model X.prog X.w) A R (GY X S) n t0 c0 ((execs b X.env).wrap J L gd lv) fs s
theorem cG_gss {X : Cx} {b : List Stmt} : GSs X b (cG X b) := ⟨fun A S ip R n _ t0 c0 fs J L gd lv s _ _ _ g hn k hI q => q A S ip R n t0 c0 fs J L gd lv s g hn k hI⟩
theorem cG_of {X : Cx} {b : List Stmt} {t : TGn} {D : GEnds} {ys : List V} {st : L2.St} {K : Hp} (h : GSs X b t) (q : t D ys st K) : cG X b D ys st K := fun A S ip R n t0 c0 fs J L gd lv s g hn k hI => h.run A S ip R n ys t0 c0 fs J L gd lv s st K D g hn k hI q
structure FoG (c : Ct) (H : Hp) (σ : Sg) (K : Hp) (Q : List DT → Sg → Prop) (E : TX) (D : GEnds) : Prop where
  nx : ∀ vs ys σ' st' H' K', Gw H σ K H' σ' K' → Wd c.K H' σ' K' → RepA c.K H' vs ys → Q ys σ' → D.nx vs st' K'
  ex : ∀ cls dA x σ' st' H' K', Gw H σ K H' σ' K' → Wd c.K H' σ' K' → XRep c.K H' dA x → E cls x σ' → c.Wx cls dA st' K'
theorem FoG.next {c : Ct} {H H1 K K1 : Hp} {σ σ1 : Sg} {Q : List DT → Sg → Prop} {E : TX} {D : GEnds} (f : FoG c H σ K Q E D) (g : Gw H σ K H1 σ1 K1) : FoG c H1 σ1 K1 Q E D :=
  ⟨fun vs ys σ' st' H' K' g' => f.nx vs ys σ' st' H' K' (g.trans g'), fun cls dA x σ' st' H' K' g' => f.ex cls dA x σ' st' H' K' (g.trans g')⟩
theorem FoG.xc {c : Ct} {H K : Hp} {σ : Sg} {Q : List DT → Sg → Prop} {E : TX} {D : GEnds} {st : L2.St} (f : FoG c H σ K Q E D) : XC c H σ K st E := fun cls dA x σ' H' K' g w xr e => f.ex cls dA x σ' st H' K' g w xr e
/-- the rest of a generator's body; ys is out -/
structure GB (c : Ct) (b : List Stmt) (ρ : EnvT) (σ : Sg) (ys : List DT) (Q : List DT → Sg → Prop) (E : TX) : Prop where
  run : ∀ X, Con c X → X.env.scope.isCoroutine = false ∧ interactive X.env = false → ∀ st H K, Wd c.K H σ K → REnv c.K H ρ st → ∀ vs, RepA c.K H vs ys → ∀ D, FoG c H σ K Q E D → cG X b D vs st K
section
variable {c : Ct} {ρ : EnvT} {σ : Sg} {ys : List DT} {Q : List DT → Sg → Prop} {E : TX} {e iter : Expr} {rest : List Stmt} {pos px p2 p3 yp : Pos} {x : Str} {j : Nat}
theorem gb_expr (h : TE c e ρ σ (fun _ σ1 => GB c rest ρ σ1 ys Q E) E) (hs : ∀ env, swapsWith e none pos.line env = pure false := by intro _; rfl) : GB c (.Expr e pos :: rest) ρ σ ys Q E := ⟨fun X hX hi st H K w re vs ra D f => by
  refine cG_of (gss_cons (gs_ps (ps_expr cE_pe (hs _))) cG_gss) ?_
  refine h.run X hX st H K w re f.xc _ fun v d σ1 H1 K1 g1 w1 _ q => ?_
  exact q.run X hX hi st H1 K1 w1 (re.same g1.b) vs (ra.same g1.b) D (f.next g1)⟩
theorem lkT_set {N : List Str} (hj : N.idxOf x = j) (jn : j < N.length) (jl : j < ρ.length) {d : DT} : lkT N (ρ.set j (some d)) x = some d := by
  unfold lkT
  rw [hj, if_pos jn, List.getElem?_set_self jl]
theorem gb_for [Calm c] (htg : IsN c (.Name x px) j) (hv : visB c.sc x = true) (hj : c.N.idxOf x = j) (jn : j < c.N.length) (jl : j < ρ.length) (h : TI c (.Name x px) iter ρ σ (fun ds σ1 => ys.length + ds.length ≤ sizeLine ∧ Q (ys ++ ds) σ1) E)
    (hf : ∀ env z, foldedSetIterable iter env z = pure z := by intro _ _; rfl) (hd : (x == ("__debug__" : Str)) = false := by decide) (hcd : (x == ("__classdict__" : Str)) = false := by decide) :
    GB c [.For (.Name x px) iter [.Expr (.Yield (some (.Name x p2)) yp) p3] [] pos] ρ σ ys Q E := ⟨fun X hX hi st H K w re vs ra D f => by
  have calm := con_calm hX
  have hX' := hX
  cases hX' with
  | mk _ k' Wx fa hpp hrH hcf hh hp' hth hf' hN hU hst =>
    obtain rfl : hpp = none := ‹Calm _›.h
    refine cG_of (gss_cons (gs_for hp' calm cP_pi (tg_pg (t := .nm j) htg hX) (gss_cons (gs_yield cE_pe hi.1 hi.2) gss_nil) (hf _)) gss_nil) ?_
    refine h.run X hX st H K w re f.xc _ fun ds σ1 Jt G Yh H1 K1 g1 w1 ⟨hl, hq⟩ wk hG hy => ?_
    refine ⟨fun i m vs' st' K' => m + i = ds.length ∧ ∃ H' ρ', Gw H1 σ1 K1 H' σ1 K' ∧ Wd X.K H' σ1 K' ∧ REnv X.K H' ρ' st' ∧ ρ'.length = ρ.length ∧ RepA X.K H' vs' (ys ++ ds.take i), ⟨ds.length, rfl, H1, ρ, Gw.refl, w1, re.same g1.b, rfl, by rw [List.take_zero, List.append_nil]; exact ra.same g1.b⟩, ?_⟩
    rintro i m vs' st' K' ⟨hm, H', ρ', g, w', re', hlen, ra'⟩
    have hg := hG H' σ1 K' g.b w'
    by_cases hi2 : i < ds.length
    · refine .inr ⟨wk.goes i K' hi2 hg, fun vs2 st2 K2 => ∃ H2 ρ2, Gw H1 σ1 K1 H2 σ1 K2 ∧ Wd X.K H2 σ1 K2 ∧ REnv X.K H2 ρ2 st2 ∧ ρ2.length = ρ.length ∧ RepA X.K H2 vs2 (ys ++ ds.take (i + 1)), fun vs2 st2 K2 q => ⟨m - 1, by omega, by omega, q⟩, fun v Kb y => ?_⟩
      obtain ⟨H2, d, hdd, g2, w2, rd, _⟩ := hy i v H' σ1 K' Kb hi2 g.b w' (wk.yields i K' v Kb hi2 hg y)
      refine g_of (t := .nm j) w2 rd (re'.same g2.b) rfl fun st2 re2 _ => ?_
      refine ⟨?_, ?_⟩
      · have l1 := ra'.length
        rw [List.length_append, List.length_take] at l1
        omega
      · have hn := tv_nm (c := ⟨X.prog, X.w, X.K, X.mg, X.base, X.N, X.env.scope, k', Wx, fa, none⟩) (pos := p2) (ρ := ρ'.set j (some d)) (σ := σ1) (lkT_set hj jn (by omega)) hv hd hcd
        refine (hn.to (Q := fun d' σ' => d' = d ∧ σ' = σ1) (E := fun _ _ _ => False) ⟨rfl, rfl⟩).run X hX st2 H2 Kb w2 re2 (fun _ _ _ _ _ _ _ _ _ z => z.elim) _ fun v3 d3 σ3 H3 K3 g3 w3 rv3 ⟨e1, e2⟩ => ?_
        subst e1 e2
        refine ⟨H3, _, g.trans (g2.trans g3), w3, re2.same g3.b, by rw [List.length_set]; exact hlen, ?_⟩
        rw [List.take_add_one, hdd, ← List.append_assoc]
        exact ((ra'.same g2.b).same g3.b).append (.cons rv3 .nil)
    · obtain rfl : i = ds.length := by omega
      refine .inl ⟨wk.stops K' hg, ?_⟩
      refine f.nx vs' _ σ1 st' H' K' (g1.trans g) w' ra' ?_
      rw [List.take_of_length_le (by omega)]
      exact hq⟩
end

/-! ### the promise, the rule, the call -/
def spGT (F : PySem.W.Frag) (spec : TSpec) : SpG := fun vs K Q E => ∃ ds H σ Qd Ed, Wd F H σ K ∧ RepA F H vs ds ∧ spec ds σ Qd Ed ∧
  (∀ ws out σ' H' K', Gw H σ K H' σ' K' → Wd F H' σ' K' → RepA F H' ws out → Qd (.lst out) σ' → Q ws K') ∧ (∀ cls dA x σ' H' K', Gw H σ K H' σ' K' → Wd F H' σ' K' → XRep F H' dA x → Ed cls x σ' → E cls dA K')
/-- a generator def that keeps its promise: spec speaks of the list of all that it hands out -/
def DtG (P : Program) (w : World) (F : PySem.W.Frag) (mg : Str → Option Value) (base : Heap) (x : Str) (ps : List Str) (k : Nat) (spec : TSpec) : Prop :=
  ∃ f fd, mg x = some (.ref f) ∧ PySem.W.keepIn F (.ref f) = true ∧ Binds F fd ps [] ∧ FnGen P w F mg base k f fd ps (spGT F spec)
theorem dtg_ok {P : Program} {w : World} {F : PySem.W.Frag} {mg : Str → Option Value} {base : Heap} {x : Str} {st : Stmt} {N ps : List Str} {k : Nat} {spec : TSpec} (d : DfN F mg x ps st) (S : GScope N ps (defScope st)) (len : ∀ ds σ Q E, spec ds σ Q E → ds.length = ps.length)
    (hb : ∀ (ds : List DT) (σ : Sg) (Q : DT → Sg → Prop) (E : TX) (Wx : WX), spec ds σ Q E → GB (ctD P w F mg base N st k Wx) (defBody st) (startT N ds) σ [] (fun out σ' => Q (.lst out) σ') E) : DtG P w F mg base x ps (k + 1) spec := by
  obtain ⟨f, fd, h1, h2, h3⟩ := d
  refine ⟨f, fd, h1, h2.kp, h3, fngen_of h2 S (fun vs K Q E h => ?_) fun cdv A outer s K vs Q E pn hr hG h => ?_⟩
  · obtain ⟨ds, H, σ, Qd, Ed, _, ra, h, _⟩ := h
    exact ra.length.trans (len _ _ _ _ h)
  · obtain ⟨ds, H, σ, Qd, Ed, wd, ra, h, q, y⟩ := h
    refine ⟨_, cG_gss, (hb ds σ Qd Ed (fun cls d _ K' => E cls d K') h).run _ ?_ ⟨S.co, by show (_ == _ && _) = false; rw [show (cxG P w F mg base N x (defScope st) f cdv A outer s K E pn).env.scope.kind = .function from S.kind]; rfl⟩ _ H K wd ?_ [] .nil _ ⟨fun ws out σ' st' H' K' g w' rw e => q ws out σ' H' K' g w' rw e, fun cls dA z σ' st' H' K' g w' xr e => y cls dA z σ' H' K' g w' xr e⟩⟩
    · exact Con.mk (cxG P w F mg base N x (defScope st) f cdv A outer s K E pn) k _ true none (roomH_of hr) (fun _ => ⟨rfl, hr⟩) (fun _ z => nomatch z) owns_cxG takes_cxG (fun _ _ => rfl) S.nd hG (fun _ => ⟨rfl, rfl, rfl⟩)
    · unfold startT L2.start
      rw [ra.length]
      exact renv_start ra _
section
variable {c : Ct} {ρ : EnvT} {σ : Sg} {Q : DT → Sg → Prop} {E : TX} {a : Expr} {es : List Expr} {pos p pos2 p2 : Pos}
theorem te_listG [Calm c] {g : Str} {ps : List Str} {k : Nat} {spec : TSpec} (dt : DtG c.P c.w c.K c.mg c.base g ps k spec) (hk : k + 3 ≤ c.k) (hl : GlS c "list") (ml : c.mg "list" = none) (hg : GlS c g)
    (h : TA c (a :: es) ρ σ (fun ds σ1 => spec ds σ1 Q (fun cls x σ2 => PySem.W.subIn c.K cls (.type "StopIteration") = some false ∧ E cls x σ2)) E) (hdb : (g == ("__debug__" : Str)) = false := by decide)
    (he : ∀ env, starEach (a :: es) env = (false, eval a env) :: starEach es env := by intro _; rfl) (hpl : ∀ pos env, (backTo pos (starEach es env)).any (·.1) = false := by intro _ _; rfl)
    (hel : ∀ env, starEach [Expr.Call (.Name g p) (a :: es) [] pos] env = (false, eval (.Call (.Name g p) (a :: es) [] pos) env) :: starEach [] env := by intro _; rfl) : TE c (.Call (.Name "list" p2) [.Call (.Name g p) (a :: es) [] pos] [] pos2) ρ σ Q E := ⟨fun X hX st H K w r xc Q' fo pins s I => by
  obtain ⟨fa, fd, hm, kp, hb, Fn⟩ := dt
  have hX' := hX
  cases hX' with
  | mk _ k' Wx fl hpp hrH hcf hh hp' ht hf hN hU hst =>
    obtain rfl : hpp = none := ‹Calm _›.h
    have room : Room (k + 3) X.A := (hcf rfl).2.mono hk
    refine wpAny_Call_Name_kw (ld_blt I hl ml bt_list ?_ (by decide) (by decide))
    refine PyProof.Rows.callWith_type1 ?_ (hel _) rfl
    rw [hel]
    show wpAny _ _ (spliced ((false, eval _ X.env) :: backTo pos2 (starEach [] X.env))) _ _ s
    refine Calls.spliced_cons (thn (Q := fun u s3 => ∃ s2 K2 σ2 H2, Inv X pins st K2 s2 ∧ Gw H σ K H2 σ2 K2 ∧ Wd X.K H2 σ2 K2 ∧ MadeG X.prog X.w k X.stack K2 s2 (fun ws K3 => ∃ out σ3 H3, Gw H2 σ2 K2 H3 σ3 K3 ∧ Wd X.K H3 σ3 K3 ∧ RepA X.K H3 ws out ∧ Q (.lst out) σ3) (fun cls dA K3 => PySem.W.subIn X.K cls (.type "StopIteration") = some false ∧ Wx cls dA st K3) u s3) ?_ ?_)
    · refine wpAny_Call_Name_kw (ld_glob I hg hm ?_ hdb)
      have hA := h.run X hX st H K w r xc (fun vs K2 => ∃ ds σ2 H2, Gw H σ K H2 σ2 K2 ∧ Wd X.K H2 σ2 K2 ∧ RepA X.K H2 vs ds ∧ spec ds σ2 Q (fun cls x σ3 => PySem.W.subIn X.K cls (.type "StopIteration") = some false ∧ E cls x σ3)) (fun vs ds σ2 H2 K2 g2 w2 r2 q => ⟨ds, σ2, H2, g2, w2, r2, q⟩) pos pins s I
      refine PySem.W.callWith_K (h₀ := X.base) I.ok.mod.kin kp (thn hA fun us s2 z => ?_) (he _) (hpl _ _)
      obtain ⟨vs, K2, I2, rv, ds, σ2, H2, g2, w2, r2, q⟩ := z
      refine ⟨I2.kIn, ?_⟩
      have hsp : spGT X.K spec vs K2 (fun ws K3 => ∃ out σ3 H3, Gw H2 σ2 K2 H3 σ3 K3 ∧ Wd X.K H3 σ3 K3 ∧ RepA X.K H3 ws out ∧ Q (.lst out) σ3) (fun cls dA K3 => PySem.W.subIn X.K cls (.type "StopIteration") = some false ∧ Wx cls dA st K3) :=
        ⟨ds, H2, σ2, Q, _, w2, r2, q, fun ws out σ3 H3 K3 g3 w3 r3 q3 => ⟨out, σ3, H3, g3, w3, r3, q3⟩, fun cls dA x σ3 H3 K3 g3 w3 xr e => ⟨e.1, xc cls dA x σ3 H3 K3 (g2.trans g3) w3 xr e.2⟩⟩
      have hl2 : (us ++ ([] : List Value)).length = ps.length := by
        rw [List.append_nil, ← rv.length]
        exact Fn.len _ _ _ _ hsp
      have b := hb s2 us I2.kIn hl2
      rw [List.append_nil] at b
      refine wpAny_call (codeAny_mono (Fn.run X.A (room.mono (by omega)) hU X.stack s2 K2 I2.env0 ⟨us, []⟩ us vs rv b _ _ hsp) ?_)
      rintro _ s3 ⟨u, rfl, made⟩
      exact ⟨s2, K2, σ2, H2, I2, g2, w2, made⟩
    · rintro u s3 ⟨s2, K2, σ2, H2, I2, g2, w2, made⟩
      refine Calls.spliced_nil ?_
      have old : s2.heap.objs.size ≤ s3.heap.objs.size := by
        obtain ⟨_, _, _, _, ⟨l1, l2⟩, _⟩ := made
        exact Nat.le_trans l1 (Nat.le_of_lt l2)
      refine call_listG room hU I2.ok.frames made ?_ ?_
      · rintro S s5 ge ⟨K3, ys, acc, cc, os, bare, un, hok, fresh, atS, vals, le, out, σ3, H3, g3, w3, r3, q⟩
        obtain ⟨gn, wn⟩ := w3.new (o := .lst ys) fresh
        exact ⟨.ref S, _, I2.drained (Nat.le_trans old ge) le atS vals .nil os bare un hok fresh, rfl, fo _ _ _ _ _ (g2.trans (g3.trans gn)) wn (.lst upd_same (r3.same gn.b)) q⟩
      · intro e s5 g5 cx
        have inn : X.K.In s5.heap := by
          obtain ⟨_, G, _, _, _, _, fly, _, ub, _⟩ := id cx
          refine I2.ok.mod.kin.keeps fun b o q => fly.1 b o (ub.keep b o (I2.bs b o q).1 (I2.bs b o q).2 fun z => ?_)
          cases List.mem_cons.mp (I2.stkSub b z) with
          | inl y => exact absurd (y ▸ Heap.lt_size q) (Nat.not_lt.mpr (Nat.le_trans I2.ok.bsz I2.ok.above))
          | inr y => exact I2.ok.nofr q y
        refine ⟨no_stop (fun _ _ _ z => z.1) inn cx, L2N.passAt ht st pins K2 s2 e _ I2 ?_⟩
        obtain ⟨x1, x2, x3, x4, x5, x6, x7, x8, x9, y1, y2, y3, y4⟩ := cx
        exact ⟨x1, x2, x3, x4, x5, x6, x7, x8, x9, y1, y2, allBare_setGen y3 rfl, y4.2⟩⟩
end
end Y

/-! Yqi: a dict == an int. -/
namespace PySem.W
open PySem PySem.Calls PyProof.Rows Builtin
open _root_.PySem.AutoSeq1 (wpAny_loadPart')
theorem int_eq_dict (b : Int) (u : Tok) (l : Addr) (c : Value) (dd : Option Addr) (es : Array DictEntry) (n : Nat) (sl : Array (Option Value)) : Meets (Builtin.«int.__eq__» ⟨[.int b u, .ref l], []⟩) (fun _ R s => s.heap.get? l = some { cls := c, dict := dd, data := .dict es n, slots := sl } ∧ R (.ok (.ret .notImplemented)) s) :=
  .of_wp fun prog w A R s h => by obtain ⟨hp, g, d, tk, os⟩ := s; obtain ⟨hl, h⟩ := h; wp_walk using wpAny_loadPart' hl, wpAny_load hl; exact ⟨_, rfl, h⟩
theorem dict_eq_int (b : Int) (u : Tok) (l : Addr) : Meets (Builtin.«dict.__eq__» ⟨[.ref l, .int b u], []⟩) (fun _ R s => R (.ok (.ret .notImplemented)) s) :=
  .of_wp fun prog w A R s h => by obtain ⟨hp, g, d, tk, os⟩ := s; have f1 := F.sub_int_dict; wp_walk; exact ⟨_, rfl, h⟩
end PySem.W
namespace Y
open PySem PySem.Spec PySem.Calls PyProof.Rows L2 SX Z
section
variable {c : Ct} {σ : Sg} {x y : DT} {kvs : List (DK × DT)} {i : Int}
theorem po_eqDctI (hx : DiT σ x kvs) : PO2 c (compareOp .Eq) x (.int i) σ (.bl false) := ⟨fun X hX H K w v u rv ru Q q => by
  have hu := con_room hX
  cases hX
  obtain ⟨a, vs, rfl, q1, r1⟩ := hx.now w rv
  cases ru
  intro pins s st z1 z2 I y1 y2
  cases y1
  obtain ⟨t, rfl⟩ := (show ∃ t, z2 = Value.int i t from y2)
  obtain ⟨_, ya, va, ra, ⟨⟨cls, dd, data, sl⟩, es, ep, ho, hex, hd, _⟩⟩ := dk_rd I.hok q1
  have hc : cls = .type "dict" := hex.1
  have hd2 : data = .dict es ep := hd
  subst hc hd2
  refine SeqAt.rc_eq_decline_or (k := false) ⟨_, ho, rfl⟩ (typeIs_int s i t) (by decide) PySem.F.sub_int_dict PySem.F.slot_dict_eq PySem.F.slot_int_eq_refl
    (fun _ hq => call_meets PySem.F.slot_dict_eq ⟨_, ho, rfl⟩ PySem.F.entry_dict_eq (PySem.F.args_dict_eq_2 _ _) (PySem.W.dict_eq_int i t a) hq)
    (fun _ hq => call_meets PySem.F.slot_int_eq_refl (typeIs_int s i t) PySem.F.entry_int_eq (PySem.F.args_int_eq_2 _ _) (PySem.W.int_eq_dict i t a _ dd es ep sl) ⟨ho, hq⟩)
    (fun _ hq => wpAny_of_eq (rfl : isSame (.ref a) (.int i t) = pure false) hq) (.inr (by omega)) ?_
  exact ⟨.bl false, K, I, rfl, q _ H K Gw.refl w (.bl _)⟩⟩
end
end Y

/-! Yt2: a < b < c as a test. -/
namespace Y
open PySem PySem.Spec PyProof.Rows L2 L2H SX Z HotX
section
variable {c : Ct} {ρ : EnvT} {σ : Sg} {a b : Expr} {x y z : DT} {pos : Pos}
theorem tb_chain2 {d : Expr} {o o' : CmpOp} {r s : Bool} (ha : TV c a ρ σ x) (hb : TV c b ρ σ y) (hd : TV c d ρ σ z) (ho : PO2 c (compareOp o) x y σ (.bl r)) (ho' : PO2 c (compareOp o') y z σ (.bl s))
    (hm : lastMarks [o, o'] [b, d] = false := by with_unfolding_all rfl) : TB c (.Compare a [o, o'] [b, d] pos) ρ σ (r && s) := ⟨fun {Q E} q => ⟨fun X hX st H K w rr xc Q' f => by
  refine cT_of (pt_chain cO_or cO_or cE_pe cE_pe cE_pe hm) ?_
  refine (ha.to (Q := fun d σ' => d = x ∧ σ' = σ) ⟨rfl, rfl⟩).run X hX st H K w rr xc _ fun v1 d1 σ1 H1 K1 s1 w1 r1 ⟨z1, z2⟩ => ?_
  subst z1 z2
  refine (hb.to (Q := fun d σ' => d = y ∧ σ' = σ1) ⟨rfl, rfl⟩).run X hX st H1 K1 w1 (rr.same s1.b) (xc.next s1) _ fun u d2 σ2 H2 K2 s2 w2 r2 ⟨z1, z2⟩ => ?_
  subst z1 z2
  refine ho.run X hX H2 K2 w2 v1 u (r1.same s2.b) r2 _ fun q1 H3 K3 s3 w3 r3 => ?_
  cases r3
  have g3 := s1.trans (s2.trans s3)
  refine ⟨r, rfl, ?_⟩
  cases r with
  | false => exact iteF ⟨_, rfl, f _ _ _ H3 K3 g3 w3 rfl q⟩
  | true =>
    refine iteT ?_
    refine (hd.to (Q := fun d σ' => d = z ∧ σ' = σ2) ⟨rfl, rfl⟩).run X hX st H3 K3 w3 (rr.same g3.b) (xc.next g3) _ fun u3 d3 σ3 H4 K4 s4 w4 r4 ⟨z1, z2⟩ => ?_
    subst z1 z2
    refine ho'.run X hX H4 K4 w4 u u3 (r2.same (s3.trans s4).b) r4 _ fun q2 H5 K5 s5 w5 r5 => ?_
    cases r5
    exact ⟨_, rfl, f _ _ _ H5 K5 (g3.trans (s4.trans s5)) w5 rfl q⟩⟩⟩
end
end Y

/-! Yab: abs of an int. -/
namespace Y
open PySem PySem.Spec L2 SX Z
theorem pf_absI {c : Ct} {σ : Sg} {i : Int} : POF c (.builtin "abs") [.int i] σ (.int (if i < 0 then -i else i)) := ⟨fun X hX H K w vs r Q k => by
  obtain ⟨v, rfl, rv⟩ := repA_one r
  cases rv
  exact cF_of call_abs ⟨i, rfl, k _ H K Gw.refl w (.int _)⟩⟩
end Y

/-! Ycl: an instance is called (a class with a plain __call__). -/
namespace PySem.W
open PySem PySem.Calls PyProof.Rows Builtin
section
variable {prog : Program} {w : World} {M : Model} {A : Around} {E : Value → Shared → Prop} {s : Shared} {K : Frag} {x C f : Addr} {ox : Obj} {od : Option Obj} {Q : Value → Shared → Prop}
theorem callWith_obj {f : Value} {first : List Value} {pos : Pos} {args : List (Bool × Sem Value)} {keywords : List (Option Str × Sem Value)} (hp : (args.any (·.1) || keywords.any (·.1.isNone)) = false)
    (h : wpAny M A (evalArgs f true args keywords) (fun a s1 => Looks M s1.heap (keeperOf f) Keeper.caller ∧ wpAny M A (call f (first ++ a.pos) a.kw) Q E s1) E s) : wpAny M A (callWith pos f first args keywords) Q E s := by
  unfold callWith
  refine wpAny_bind (wpAny_holding (wpAny_mono h (fun a s1 z => wpAny_bind (wpAny_standAt ?_)) fun _ _ z => z))
  simp only [hp]
  refine wpAny_bind (z.1.here ?_)
  exact wpAny_bind (wpAny_operate' (wpAny_mono z.2 (fun r s2 hr => wpAny_bind (wpAny_holding (wpAny_point (wpAny_pure hr)))) fun _ _ y => y))
theorem looks_caller (I : InstAt s.heap x ox C od) (hd : ox.data = .plain) : Looks M s.heap (keeperOf (.ref x)) Keeper.caller := by
  refine (Looks.ld (part := none) I.at_).andThen ?_
  rw [hd]
  exact .now
/-- the call of an instance is the call of its class's __call__ with it ahead -/
theorem call_inst {us : List Value} (X : K.In s.heap) (I : InstAt s.heap x ox C od) (hd : ox.data = .plain) (hs : findIn K (.ref C) "__call__" = some (some (.ref f))) (hf : isFn K (.ref f) = true) (hn : fnIn K f = true)
    (h : codeAny (model prog w) A (.call (.ref f) ⟨.ref x :: us, []⟩) (fun r s' => match r with | .ok (.ret v) => Q v s' | .ok _ => False | .error e => E e s') s) : wpAny (model prog w) A (call (.ref x) us) Q E s := by
  refine wpAny_call (codeAny_of_tree ?_)
  show wpAny _ A.in1 (callAny (.ref x) ⟨us, []⟩) _ _ s
  simp only [callAny]
  refine wpAny_bind (wpAny_load I.at_ ?_)
  simp only [hd]
  unfold callAny.viaDunder
  refine wpAny_bind (m := specialOf _ _) (wpAny_bind (I.type.here ((looks_findIn X hs).here ?_)))
  refine wpAny_bind (m := bindSpecial _ _) ((bind_fn X _ (beq_iff_eq.mp hf)).here ?_)
  unfold fnIn at hn
  split at hn
  · rename_i q
    refine wpAny_bind (m := callAny.plainCallee _) ?_
    unfold callAny.plainCallee
    refine wpAny_bind (wpAny_load (X _ _ q) (wpAny_pure ?_))
    simp only [if_true]
    exact wpAny_pure ⟨rfl, h⟩
  · cases hn
end
end PySem.W
namespace Y
open PySem PySem.Spec PyProof.Rows L2 L2H SX Z
theorem fnIn_of {F : PySem.W.Frag} {x qual : Str} {st : Stmt} {f : Addr} {fd : FuncData} (Fn : Fun F x qual st f fd) : PySem.W.fnIn F f = true := by
  obtain ⟨oc, od, kV, doc, pm, an, cdv, ct, osl, rfl, lk, _⟩ := Fn.ex
  unfold PySem.W.fnIn
  rw [lk]
/-- a class whose instances are called -/
def DtCl (P : Program) (w : World) (F : PySem.W.Frag) (mg : Str → Option Value) (base : Heap) (C : Addr) (ps : List Str) (k : Nat) (spec : TSpec) : Prop :=
  ∃ f fd, Meth F C "__call__" f ∧ PySem.W.fnIn F f = true ∧ Binds F fd ps [] ∧ FnG P w F mg base k f fd ps (spT F spec)
section
variable {c : Ct} {ρ : EnvT} {σ : Sg} {Q : DT → Sg → Prop} {E : TX} {a o : Expr} {es : List Expr} {pos : Pos} {C : Addr} {ps : List Str} {k : Nat} {spec : TSpec}
theorem te_callO [Calm c] (mt : DtCl c.P c.w c.K c.mg c.base C ps k spec) (hk : k ≤ c.k) (hc : Cls c.K C)
    (h : TE c o ρ σ (fun x σ1 => ∃ fs, x = .obj C fs ∧ TA c (a :: es) ρ σ1 (fun ds σ2 => spec (.obj C fs :: ds) σ2 Q E) E) E)
    (heq : ∀ env, eval (.Call o (a :: es) [] pos) env = (do
      let f ← eval o env
      callWith pos f [] (backTo pos (starEach (a :: es) env)) (backToKw pos (keywordEach [] env))))
    (he : ∀ env, starEach (a :: es) env = (false, eval a env) :: starEach es env := by intro _; rfl) (hpl : ∀ pos env, (backTo pos (starEach es env)).any (·.1) = false := by intro _ _; rfl) : TE c (.Call o (a :: es) [] pos) ρ σ Q E := ⟨fun X hX st H K w r xc Q' fo => fun pins s I => by
  obtain ⟨f, fd, hm, hn, hb, Fn⟩ := mt
  have hX' := hX
  cases hX' with
  | mk _ k' Wx fl hpp hrH hcf hh hp' ht hf hN hU hst =>
    obtain rfl : hpp = none := ‹Calm _›.h
    obtain ⟨hcc, hr⟩ := hcf rfl
    rw [heq]
    refine wpAny_bind (thn (h.run X hX st H K w r xc (fun v K1 => ∃ fs σ1 H1, Gw H σ K H1 σ1 K1 ∧ Wd X.K H1 σ1 K1 ∧ Rep X.K H1 v (.obj C fs) ∧ TA ⟨X.prog, X.w, X.K, X.mg, X.base, X.N, X.env.scope, k', Wx, fl, none⟩ (a :: es) ρ σ1 (fun ds σ2 => spec (.obj C fs :: ds) σ2 Q E) E)
      (fun v x σ1 H1 K1 s1 w1 r1 ⟨fs, ex, hA⟩ => by subst ex; exact ⟨fs, σ1, H1, s1, w1, r1, hA⟩) pins s I) fun u s1 ⟨v, K1, I1, rv, fs, σ1, H1, g1, w1, r1, hA⟩ => ?_)
    have r1' := r1
    cases r1' with
    | @obj ad _ dx vs _ ea ed rf =>
      cases rv
      have hargs := hA.run X hX st H1 K1 w1 (r.same g1.b) (xc.next g1) (fun vs K2 => ∃ ds σ2 H2, Gw H1 σ1 K1 H2 σ2 K2 ∧ Wd X.K H2 σ2 K2 ∧ RepA X.K H2 vs ds ∧ spec (.obj C fs :: ds) σ2 Q E) (fun vs ds σ2 H2 K2 s2 w2 r2 q => ⟨ds, σ2, H2, s2, w2, r2, q⟩) pos pins s1 I1
      rw [he] at hargs ⊢
      refine PySem.W.callWith_obj (first := []) (by show ((false || (backTo pos (starEach es X.env)).any (·.1)) || false) = false; rw [hpl]; rfl) (PySem.Calls.evalArgs_plain (thn hargs fun us s2 ⟨vs, K2, I2, rr, ds, σ2, H2, g2, w2, ra, q⟩ => ?_))
      have r2 : Rep X.K H2 (.ref ad) (.obj C fs) := Rep.same g2.b (Rep.obj ea ed rf)
      have r2' := r2
      cases r2' with
      | @obj _ _ dx2 vs2 _ ea2 ed2 rf2 =>
        obtain ⟨mA, O, _, _, _, _⟩ := ins_get I2.hok (w2.le _ _ ea2)
        obtain ⟨od, J, _⟩ := O.look
        refine ⟨PySem.W.looks_caller J rfl, PySem.W.call_inst I2.kIn J rfl hm.at_ hm.fn hn ?_⟩
        have hsp : spT X.K spec (.ref ad :: vs) K2 Q' (WE Wx st) := ⟨.obj C fs :: ds, H2, σ2, Q, E, w2, .cons r2 ra, q, fun v d σ' H' K' s => fo v d σ' H' K' (g1.trans (g2.trans s)), fun cls dA x σ' H' K' s => xc cls dA x σ' H' K' (g1.trans (g2.trans s))⟩
        have hl : ((Value.ref ad :: us) ++ ([] : List Value)).length = ps.length := by
          rw [List.append_nil, List.length_cons, ← rr.length]
          exact Fn.len _ _ _ _ hsp
        have b := hb s2 (.ref ad :: us) I2.kIn hl
        rw [List.append_nil] at b
        refine codeAny_mono (Fn.calm X.A (hr.mono hk) hU X.stack s2 K2 I2.env0 ⟨.ref ad :: us, []⟩ (.ref ad :: us) (.ref ad :: vs) (.cons rfl rr) b Q' _ hsp) fun res s3 z => ?_
        match res, z with
        | .error e, z => exact L2N.passAt ht st pins K2 s2 e s3 I2 z
        | .ok (.ret u), z => exact I2.after z
        | .ok .next, z => exact z.elim
        | .ok .brk, z => exact z.elim
        | .ok .cont, z => exact z.elim⟩
end
end Y

/-! Ysi: sorted of a list of ints. -/
namespace Y
open PySem PySem.Spec PyProof.Rows L2 SX Z
def srtI (l : List Int) : List Int := l.mergeSort fun a b => decide (a ≤ b)
theorem srtI_perm (l : List Int) : (srtI l).Perm l := List.mergeSort_perm l _
theorem srtI_pair (l : List Int) : (srtI l).Pairwise (· ≤ ·) := by
  have h := List.pairwise_mergeSort (le := fun a b : Int => decide (a ≤ b)) (fun a b c h1 h2 => decide_eq_true (Int.le_trans (of_decide_eq_true h1) (of_decide_eq_true h2))) (fun a b => by
    rcases Int.le_total a b with h | h
    · rw [decide_eq_true h]; rfl
    · rw [decide_eq_true h, Bool.or_true]) l
  exact h.imp fun z => of_decide_eq_true z
theorem srtI_uniq {l m : List Int} (h : m.Perm l) (s : m.Pairwise (· ≤ ·)) : m = srtI l := List.Perm.eq_of_pairwise (le := (· ≤ ·)) (fun a b _ _ h1 h2 => Int.le_antisymm h1 h2) s (srtI_pair l) (h.trans (srtI_perm l).symm)
theorem pf_sortedI {c : Ct} {σ : Sg} {x : DT} {l : List Int} (hx : LsT σ x (l.map DT.int)) : POF c (.builtin "sorted") [x] σ (.lst ((srtI l).map DT.int)) := ⟨fun X hX H K w vs r Q q => by
  cases hX
  obtain ⟨u, rfl, ru⟩ := repA_one r
  obtain ⟨a, ws, rfl, q1, r1⟩ := hx.now w ru
  rw [repA_ints r1] at q1
  refine cF_of cr_sortedI ⟨a, l, rfl, q1, fun ys p h1 h2 hp => ?_⟩
  have e := srtI_uniq h1 h2
  obtain ⟨s2, w2⟩ := w.new (o := .lst (ys.map V.int)) hp
  refine q _ _ _ s2 w2 (.lst upd_same ?_)
  rw [e]
  exact repA_of _ DT.int (fun z => .int z) (srtI l)⟩
end Y

/-! Yth: an expression that only reads a dict that changes; constants of a class. -/
namespace Y
open PySem PySem.Spec PyProof.Rows L2 SX Z
def Sca : DT → Prop
  | .non => True
  | .bl _ => True
  | .int _ => True
  | .str _ => True
  | _ => False
theorem Sca.rep {F : PySem.W.Frag} {H H' : Hp} {d : DT} {v : V} (s : Sca d) (r : Rep F H v d) : Rep F H' v d := by
  cases r with
  | non => exact .non
  | bl b => exact .bl b
  | int i => exact .int i
  | str z => exact .str z
  | _ => exact s.elim
section
variable {c : Ct} {ρ : EnvT} {σ : Sg} {e : Expr} {d : DT}
/-- the expression runs while the dict at p is locked; its answer is a number, a text, a bool, None -/
theorem tv_thaw {p : Addr} {i : Nat} {kvs : List (DK × DT)} (hi : ρ[i]? = some (some (.ref p))) (hσ : σ p = some (.dct kvs)) (sc : Sca d) (h : TV c e (ρ.set i (some (.dct kvs))) (fun _ => none) d) : TV c e ρ σ d := ⟨fun {Q E} q => ⟨fun X hX st H K w r xc Q' fo => fun pins s I => by
  obtain ⟨vs, e1, ra⟩ := w.on p _ hσ
  have hp := w.off p _ hσ
  obtain ⟨od, I1⟩ := I.lock e1 trivial
  have nf := I.nofrz e1 trivial
  have sH : Same H (upd H p (.frz od (.dK vs))) := same_upd hp
  have w1 : Wd c.K (upd H p (.frz od (.dK vs))) (fun _ => none) (upd K p (.frz od (.dK vs))) := by
    refine ⟨fun a u q => ?_, (fun q c (z : (none : Option Cell) = some c) => nomatch z), (fun q c (z : (none : Option Cell) = some c) => nomatch z)⟩
    by_cases z : a = p
    · subst z
      rw [upd_same] at q ⊢
      exact q
    · rw [upd_ne z] at q ⊢
      exact w.le a u q
  have r1 : REnv c.K (upd H p (.frz od (.dK vs))) (ρ.set i (some (.dct kvs))) st := by
    have z := (r.same sH).set (v := .ref p) (d := .dct kvs) (.dct upd_same (ra.same sH)) i
    obtain ⟨v, e2, e3⟩ := r.get i _ hi
    cases e3
    have e4 : st.set i (some (V.ref p)) = st := by
      refine List.ext_getElem? fun j => ?_
      rw [List.getElem?_set]
      by_cases z : i = j
      · subst z
        rw [if_pos rfl, e2]
        have := (List.getElem?_eq_some_iff.mp e2).1
        rw [if_pos this]
      · rw [if_neg z]
    rwa [e4] at z
  refine thn ((h.to (Q := fun d' σ' => d' = d ∧ σ' = fun _ => none) (E := TX0) ⟨rfl, rfl⟩).run X hX st _ _ w1 r1 xc0 (fun v K1 => ∃ H1, Gw (upd H p (.frz od (.dK vs))) (fun _ => none) (upd K p (.frz od (.dK vs))) H1 (fun _ => none) K1 ∧ Rep c.K H v d) (fun v d' σ' H1 K1 s w' rv ⟨e1, e2⟩ => ?_) pins s I1) fun u s1 ⟨v, K1, I2, rv, H1, g, rp⟩ => ?_
  · subst e1 e2
    exact ⟨H1, s, sc.rep rv⟩
  · have kp := g.k p _ rfl upd_same
    have I3 := I2.unlock kp nf
    have SK : ∀ a o, K a = some o → upd K1 p (.dK vs) a = some o := fun a o ea => by
      by_cases z : a = p
      · subst z
        rw [e1] at ea
        cases ea
        exact upd_same
      · rw [upd_ne z]
        exact g.k a o rfl (by rw [upd_ne z]; exact ea)
    exact ⟨v, _, I3, rv, fo v d σ H _ ⟨Same.refl H, fun a o _ ea => SK a o ea, fun a h n => absurd h n, fun a h n => absurd h n⟩ ⟨fun a u ea => SK a u (w.le a u ea), w.off, fun q c ea => (w.on q c ea).stay (Same.refl H) fun a o _ ea => SK a o ea⟩ rp q⟩⟩⟩
/-- C.f, a constant of the class -/
theorem tv_cval {C : Addr} {mc u : Value} {f : Str} {v : V} {pos : Pos} (hr : ClX.CRead c.K C mc) (hc : ClX.CVal c.K C mc f v u) (hv : ∀ H, Rep c.K H v d) (ha : TV c e ρ σ (.ref C))
    (hab : ∀ env, attributeBase e f env (eval e env) = eval e env := by intro _; rfl) : TV c (.Attribute e f pos) ρ σ d := ⟨fun {Q E} q => ⟨fun X hX st H K w r xc Q' fo => by
  have hX' := hX
  cases hX'
  refine cE_of (ClX.pe_cval cE_pe (hab _)) ?_
  refine (ha.to (Q := fun d' σ' => d' = .ref C ∧ σ' = σ) (E := E) ⟨rfl, rfl⟩).run X hX st H K w r xc _ fun x d' σ1 H1 K1 s1 w1 r1 ⟨e1, e2⟩ => ?_
  subst e1 e2
  cases r1
  exact ⟨C, mc, v, u, rfl, hr, hc, fo _ _ _ H1 K1 s1 w1 (hv H1) q⟩⟩⟩
/-- x.f, a constant of x's class -/
theorem tv_con {C : Addr} {x : DT} {u : Value} {f : Str} {v : V} {pos : Pos} {fs : List (Str × DT)} (hc : Cls c.K C) (hk : L2.Con c.K C f v u) (hv : ∀ H, Rep c.K H v d) (ha : TV c e ρ σ x) (ox : ObX σ x C fs) (l : fs.lookup f = none)
    (hab : ∀ env, attributeBase e f env (eval e env) = eval e env := by intro _; rfl) : TV c (.Attribute e f pos) ρ σ d := ⟨fun {Q E} q => ⟨fun X hX st H K w r xc Q' fo => by
  have hX' := hX
  cases hX'
  refine cE_of (pe_con cE_pe (hab _)) ?_
  refine (ha.to (Q := fun d' σ' => d' = x ∧ σ' = σ) (E := E) ⟨rfl, rfl⟩).run X hX st H K w r xc _ fun y d' σ1 H1 K1 s1 w1 r1 ⟨e1, e2⟩ => ?_
  subst e1 e2
  obtain ⟨ad, dx, vs, rfl, ea, rf⟩ := ox.now w1 r1
  exact ⟨ad, C, dx, vs, v, u, rfl, ea, hc, hk, rf.none l, fo _ _ _ H1 K1 s1 w1 (hv H1) q⟩⟩⟩
end
end Y

open PySem L2 SX Z Y
/-! ### short words over trees -/
local macro_rules | `(tactic| walk_at "z") => `(tactic| first | assumption | omega | decide | decide +kernel)
local macro_rules | `(tactic| walk_at "as") => `(tactic| with_reducible assumption)
local macro_rules | `(tactic| walk_at "bt") => `(tactic| with_reducible first | exact bt_len | exact bt_isinstance | exact bt_str | exact bt_int | exact bt_bool | exact bt_list | exact bt_min | exact bt_max | exact bt_abs | exact bt_all | exact bt_sum | exact bt_sorted | exact bt_repr | exact bt_tuple | exact bt_dict | exact bt_set)
local macro_rules | `(tactic| walk_at "bd") => `(tactic| first | assumption | exact cut_le (by walk_at "bd") | exact app_le (by walk_at "bd") (by walk_at "bd") | exact Nat.le_refl _)
local macro_rules | `(tactic| walk_at "len") => `(tactic| first | assumption | exact Nat.le_of_ble_eq_true rfl | exact Nat.le_trans (Nat.add_le_add (by walk_at "bd") (by walk_at "bd")) (by omega) | exact Nat.le_trans (by walk_at "bd") (by omega) | omega | (simp; done) | (simp; omega))
local macro_rules | `(tactic| walk_at "mul") => `(tactic| first | assumption | (unfold CMulW; decide +kernel))
local macro_rules | `(tactic| walk_at "div") => `(tactic| first | assumption | exact ⟨by decide, by decide⟩ | exact ⟨by decide +kernel, by decide +kernel⟩)
local macro_rules | `(tactic| walk_at "pow") => `(tactic| first | assumption | exact ⟨by decide, by decide, by decide⟩)
local macro_rules | `(tactic| walk_at "cell") => `(tactic| first | assumption | exact su_same)
local macro_rules | `(tactic| walk_at "lx") => `(tactic| first | with_reducible exact lsX_l | exact lsX_c (by walk_at "cell"))
local macro_rules | `(tactic| walk_at "lt") => `(tactic| first | with_reducible exact lsT_l | with_reducible exact lsT_s | exact lsT_c (by walk_at "cell") | assumption)
local macro_rules | `(tactic| walk_at "at") => `(tactic| first | assumption | rfl | exact Z.at_nat (j := 0) rfl rfl)
local macro_rules | `(tactic| walk_at "o2") => `(tactic| first
  | with_reducible exact po_addI | with_reducible exact po_subI | with_reducible exact po_ltI | with_reducible exact po_leI | with_reducible exact po_gtI | with_reducible exact po_geI | with_reducible exact po_eqI | with_reducible exact po_neI
  | with_reducible exact po_eqS | with_reducible exact po_neS | with_reducible exact po_isN | with_reducible exact po_notN | with_reducible exact po_isB | with_reducible exact po_notB | with_reducible exact po_iaddI | with_reducible exact po_isubI
  | ((with_reducible show PO2 _ (compareOp .In) (.str _) (.str _) _ _); exact po_inS)
  | ((with_reducible show PO2 _ (binaryOp .Mult) (.int _) _ _ _); exact po_mulI (by walk_at "mul")) | ((with_reducible show PO2 _ (binaryOp .Mod) (.int _) _ _ _); exact po_modI (by walk_at "z")) | ((with_reducible show PO2 _ (binaryOp .FloorDiv) _ _ _ _); exact po_divI (by walk_at "div")) | ((with_reducible show PO2 _ (binaryOp .Pow) _ _ _ _); exact po_powI (by walk_at "pow"))
  | ((with_reducible show PO2 _ (binaryOp .Add) (.str _) _ _ _); exact po_addS (by walk_at "len")) | ((with_reducible show PO2 _ (binaryOp .Mult) (.str _) _ _ _); exact po_mulS (by walk_at "z") (by walk_at "z") (by walk_at "len"))
  | ((with_reducible show PO2 _ (binaryOp .Add) _ _ _ _); exact po_cat (by walk_at "lx") (by walk_at "lx") (by walk_at "len")) | ((with_reducible show PO2 _ (binaryOp .Mult) _ _ _ _); exact po_rep (by walk_at "lx") (by walk_at "z") (by walk_at "z") (by walk_at "len"))
  | ((with_reducible show PO2 _ (compareOp .Lt) (.str _) _ _ _); exact po_ltS) | ((with_reducible show PO2 _ (compareOp .Gt) (.str _) _ _ _); exact po_gtS))
local macro_rules | `(tactic| walk_at "of") => `(tactic| first
  | ((with_reducible show POF _ (.builtin "len") [.str _] _ _); exact pf_lenS (by walk_at "len")) | ((with_reducible show POF _ (.builtin "len") [.tup _] _ _); exact pf_lenT) | ((with_reducible show POF _ (.builtin "len") _ _ _); exact pf_lenL (by walk_at "lt")) | with_reducible exact pf_min2 | with_reducible exact pf_max2
  | ((with_reducible show POF _ (.builtin "all") _ _ _); exact pf_all (by walk_at "lt")) | ((with_reducible show POF _ (.builtin "sum") _ _ _); exact pf_sum (by walk_at "lt")) | ((with_reducible show POF _ (.builtin "isinstance") _ _ _); exact pf_isi (by rfl) (by decide +kernel)))
local macro_rules | `(tactic| walk_at "oty") => `(tactic| first | with_reducible exact pf_intB | ((with_reducible show POF _ (.type "list") [.tup _] _ _); exact pf_listT) | ((with_reducible show POF _ (.type "list") _ _ _); exact pf_listL (by walk_at "lt")))
local macro_rules | `(tactic| walk_at "va") => `(tactic| first | with_reducible exact tva_nil | exact tva_cons (by walk_at "v") (by walk_at "va"))
local macro_rules | `(tactic| walk_at "vo") => `(tactic| first | with_reducible exact to_none | exact to_some (by walk_at "v"))
local macro_rules | `(tactic| walk_at "oi") => `(tactic| first | ((with_reducible show POI _ (.str _) _ _ _); exact pi_str (by walk_at "len") (by walk_at "at")) | ((with_reducible show POI _ (.tup _) _ _ _); exact pi_tup (by walk_at "at")) | exact pi_lst (by walk_at "lt") (by walk_at "at"))
local macro_rules | `(tactic| walk_at "ol") => `(tactic| first | ((with_reducible show POL _ (.str _) _ _ _ _); exact pl_str (by walk_at "len")) | ((with_reducible show POL _ (.tup _) _ _ _ _); exact pl_tup (by walk_at "z")) | exact pl_lst (by walk_at "lt"))
/-- a call of a built-in -/
local macro_rules | `(tactic| walk_at "vc") => `(tactic| first
  | exact tv_callB (by rfl) (by walk_at "as") (by walk_at "bt") (by walk_at "va") (by walk_at "of")
  | exact tv_callTy (by rfl) (by walk_at "as") (by walk_at "bt") (by walk_at "va") (by walk_at "oty"))
local macro_rules | `(tactic| walk_at "v") => `(tactic| first
  | ((with_reducible show TV _ (.Name _ _) _ _ _); first
    | exact tv_nm (by rfl) (by rfl)
    | exact tv_gl (by rfl) (by walk_at "as")
    | exact tv_ty (by rfl) (by walk_at "as") (by walk_at "bt"))
  | with_reducible exact tv_int
  | with_reducible exact tv_str
  | with_reducible exact tv_bl
  | with_reducible exact tv_non
  | ((with_reducible show TV _ (.BinOp _ _ _ _) _ _ _); exact tv_bin (by walk_at "v") (by walk_at "v") (by walk_at "o2"))
  | ((with_reducible show TV _ (.Compare _ [_] [_] _) _ _ _); exact tv_cmp (by walk_at "v") (by walk_at "v") (by walk_at "o2") (by rfl))
  | ((with_reducible show TV _ (.Subscript _ (.Slice _ _ _ _) _) _ _ _); exact tv_slice (by walk_at "v") (by walk_at "vo") (by walk_at "vo") (by walk_at "ol"))
  | ((with_reducible show TV _ (.Subscript _ _ _) _ _ _); exact tv_sub (by walk_at "v") (by walk_at "v") (by walk_at "oi"))
  | ((with_reducible show TV _ (.Call _ _ _ _) _ _ _); walk_at "vc")
  | ((with_reducible show TV _ (.BoolOp _ [_] _) _ _ _); exact tv_one (by walk_at "v"))
  | ((with_reducible show TV _ (.BoolOp .And _ _) _ _ _); exact tv_and (by walk_at "v") (fun _ => by walk_at "v"))
  | ((with_reducible show TV _ (.BoolOp .Or _ _) _ _ _); exact tv_or (by walk_at "v") (fun _ => by walk_at "v"))
  | ((with_reducible show TV _ (.UnaryOp .Not _ _) _ _ _); exact tv_not (by walk_at "v"))
  | ((with_reducible show TV _ (.List _ _) _ _ _); exact tv_lst (by walk_at "va"))
  | ((with_reducible show TV _ (.Tuple _ _ _) _ _ _); exact tv_tup (by walk_at "va"))
  | ((with_reducible show TV _ (.IfExp _ _ _ _) _ _ _); exact tv_if (by walk_at "t") (fun _ => by walk_at "v") (fun _ => by walk_at "v")))
/-- tests -/
local macro_rules | `(tactic| walk_at "t") => `(tactic| first
  | ((with_reducible show TB _ (.Compare _ [_] [_] _) _ _ _); exact tb_cmp (by walk_at "v") (by walk_at "v") (by walk_at "o2") (by rfl))
  | ((with_reducible show TB _ (.UnaryOp .Not _ _) _ _ _); exact tb_not (by walk_at "t"))
  | ((with_reducible show TB _ (.BoolOp _ _ _) _ _ _); exact tb_W (by walk_at "tw"))
  | exact tb_val (by walk_at "v"))
local macro_rules | `(tactic| walk_at "tw") => `(tactic| first
  | ((with_reducible show TBW _ (.BoolOp .And [_] _) _ _ _); exact tbw_and1 (by walk_at "t"))
  | ((with_reducible show TBW _ (.BoolOp .Or [_] _) _ _ _); exact tbw_or1 (by walk_at "t"))
  | ((with_reducible show TBW _ (.BoolOp .And _ _) _ _ _); exact tbw_and (by walk_at "t") (fun _ => by walk_at "tw"))
  | ((with_reducible show TBW _ (.BoolOp .Or _ _) _ _ _); exact tbw_or (by walk_at "t") (fun _ => by walk_at "tw")))
/-- a name that is stored, a local target, a comprehension's block -/
local macro_rules | `(tactic| walk_at "sto") => `(tactic| exact ⟨by rfl, by first | exact .inl (by rfl) | exact .inr (by rfl), .inl rfl⟩)
local macro_rules | `(tactic| walk_at "tgt") => `(tactic| exact ⟨_, _, rfl, by rfl, by first | exact .inl (by rfl) | exact .inr (by rfl), by first | exact .inl rfl | exact .inr (by rfl)⟩)
local macro_rules | `(tactic| walk_at "tgs") => `(tactic| exact ⟨_, _, _, rfl, by first | exact ⟨by walk_at "tgt", by walk_at "tgt", trivial⟩ | exact ⟨by walk_at "tgt", by walk_at "tgt", by walk_at "tgt", trivial⟩ | exact ⟨by walk_at "tgt", by walk_at "tgt", by walk_at "tgt", by walk_at "tgt", trivial⟩⟩)
local macro_rules | `(tactic| walk_at "blk") => `(tactic| (dsimp only; decide +kernel))
local macro_rules | `(tactic| walk_at "k") => `(tactic| exact Nat.le_of_ble_eq_true rfl)

/-! ### the texts -/
namespace Y
open PySem PySem.Spec L2 SX Z
def top (i : Nat) : Stmt := PySem.Challenge.pw_windowcounts_k05_tables_of_rows.main.body.getD i (.Pass ⟨0, 0, 0, 0⟩)
abbrev s_is_integer : Stmt := top 15
theorem sc_is_integer : FnScope ["value", "low", "high"] ["value", "low", "high"] (defScope s_is_integer) := ⟨rfl, rfl, rfl, by decide +kernel, rfl, by decide +kernel, by decide +kernel⟩
abbrev s_is_letters : Stmt := top 16
theorem sc_is_letters : FnScope ["value", "low", "high", "sign"] ["value", "low", "high"] (defScope s_is_letters) := ⟨rfl, rfl, rfl, by decide +kernel, rfl, by decide +kernel, by decide +kernel⟩
abbrev s_is_row : Stmt := top 17
theorem sc_is_row : FnScope ["value"] ["value"] (defScope s_is_row) := ⟨rfl, rfl, rfl, by decide +kernel, rfl, by decide +kernel, by decide +kernel⟩
abbrev s_check_row : Stmt := top 18
theorem sc_check_row : FnScope ["value"] ["value"] (defScope s_check_row) := ⟨rfl, rfl, rfl, by decide +kernel, rfl, by decide +kernel, by decide +kernel⟩
abbrev s_check_width : Stmt := top 19
theorem sc_check_width : FnScope ["row", "value"] ["row", "value"] (defScope s_check_width) := ⟨rfl, rfl, rfl, by decide +kernel, rfl, by decide +kernel, by decide +kernel⟩
abbrev s_windows_in : Stmt := top 20
theorem sc_windows_in : FnScope ["row", "width", "place"] ["row", "width"] (defScope s_windows_in) := ⟨rfl, rfl, rfl, by decide +kernel, rfl, by decide +kernel, by decide +kernel⟩
abbrev s_counts_in : Stmt := top 22
theorem sc_counts_in : FnScope ["row", "width", "found", "window"] ["row", "width"] (defScope s_counts_in) := ⟨rfl, rfl, rfl, by decide +kernel, rfl, by decide +kernel, by decide +kernel⟩
abbrev s_most_windows : Stmt := top 23
theorem sc_most_windows : FnScope ["width"] ["width"] (defScope s_most_windows) := ⟨rfl, rfl, rfl, by decide +kernel, rfl, by decide +kernel, by decide +kernel⟩
abbrev s_is_counts : Stmt := top 24
theorem sc_is_counts : FnScope ["width", "value", "window"] ["width", "value"] (defScope s_is_counts) := ⟨rfl, rfl, rfl, by decide +kernel, rfl, by decide +kernel, by decide +kernel⟩
abbrev s_check_table : Stmt := top 25
theorem sc_check_table : FnScope ["value"] ["value"] (defScope s_check_table) := ⟨rfl, rfl, rfl, by decide +kernel, rfl, by decide +kernel, by decide +kernel⟩
abbrev s_law_reel : Stmt := top 28
theorem sc_law_reel : FnScope ["_law_script", "_law_stir", "_law_cell", "_law_great"] ["_law_script"] (defScope s_law_reel) := ⟨rfl, rfl, rfl, by decide +kernel, rfl, by decide +kernel, by decide +kernel⟩
abbrev s_law_draw : Stmt := top 29
theorem sc_law_draw : FnScope ["_law_reel_here", "_law_many", "_law_rest", "_law_extra", "_law_stir"] ["_law_reel_here", "_law_many"] (defScope s_law_draw) := ⟨rfl, rfl, rfl, by decide +kernel, rfl, by decide +kernel, by decide +kernel⟩
abbrev s_law_word : Stmt := top 30
theorem sc_law_word : FnScope ["_law_reel_here", "_law_low", "_law_high", "_law_size", "_law_way", "_law_pool", "_law_part", "_law_found", "_law_at", "_law_turn"] ["_law_reel_here", "_law_low", "_law_high"] (defScope s_law_word) := ⟨rfl, rfl, rfl, by decide +kernel, rfl, by decide +kernel, by decide +kernel⟩
abbrev s_law_windows : Stmt := top 31
theorem sc_law_windows : FnScope ["_law_text", "_law_wide", "_law_at"] ["_law_text", "_law_wide"] (defScope s_law_windows) := ⟨rfl, rfl, rfl, by decide +kernel, rfl, by decide +kernel, by decide +kernel⟩
abbrev s_law_counts : Stmt := top 32
theorem sc_law_counts : FnScope ["_law_windows_here", "_law_one"] ["_law_windows_here"] (defScope s_law_counts) := ⟨rfl, rfl, rfl, by decide +kernel, rfl, by decide +kernel, by decide +kernel⟩
abbrev s_law_dict : Stmt := top 33
theorem sc_law_dict : FnScope ["_law_reel_here", "_law_wide", "_law_most", "_law_found", "_law_left", "_law_one", "_law_many"] ["_law_reel_here", "_law_wide", "_law_most"] (defScope s_law_dict) := ⟨rfl, rfl, rfl, by decide +kernel, rfl, by decide +kernel, by decide +kernel⟩
abbrev s_law_ordered : Stmt := top 34
theorem sc_law_ordered : FnScope ["_law_counts_here", "_law_one"] ["_law_counts_here"] (defScope s_law_ordered) := ⟨rfl, rfl, rfl, by decide +kernel, rfl, by decide +kernel, by decide +kernel⟩
abbrev s_law_shows : Stmt := top 35
theorem sc_law_shows : FnScope ["_law_table", "_law_wide", "_law_counts_here", "_law_due", "_law_one"] ["_law_table", "_law_wide", "_law_counts_here"] (defScope s_law_shows) := ⟨rfl, rfl, rfl, by decide +kernel, rfl, by decide +kernel, by decide +kernel⟩
abbrev s_law_row_right : Stmt := top 36
theorem sc_law_row_right : FnScope ["_law_text", "_law_wide", "_law_counts_here", "_law_table", "_law_got", "_law_one"] ["_law_text", "_law_wide"] (defScope s_law_row_right) := ⟨rfl, rfl, rfl, by decide +kernel, rfl, by decide +kernel, by decide +kernel⟩
abbrev s_law_dict_right : Stmt := top 37
theorem sc_law_dict_right : FnScope ["_law_reel_here", "_law_wide", "_law_counts_here", "_law_given", "_law_kept", "_law_table", "_law_other"] ["_law_reel_here", "_law_wide"] (defScope s_law_dict_right) := ⟨rfl, rfl, rfl, by decide +kernel, rfl, by decide +kernel, by decide +kernel⟩
abbrev s_law : Stmt := top 38
theorem sc_law : FnScope ["_law_script", "_law_reel_here", "_law_k", "_law_text", "_law_wide", "_law_empty", "_law_full"] ["_law_script"] (defScope s_law) := ⟨rfl, rfl, rfl, by decide +kernel, rfl, by decide +kernel, by decide +kernel⟩
def clsS : Stmt → List Stmt
  | .ClassDef _ _ _ b _ _ _ _ _ _ _ => b
  | _ => []
abbrev s_Missing_init : Stmt := (clsS (top 2)).getD 0 (.Pass ⟨0, 0, 0, 0⟩)
theorem sc_Missing_init : FnScope ["self", "window"] ["self", "window"] (defScope s_Missing_init) := ⟨rfl, rfl, rfl, by decide +kernel, rfl, by decide +kernel, by decide +kernel⟩
abbrev s_TooLarge_init : Stmt := (clsS (top 3)).getD 0 (.Pass ⟨0, 0, 0, 0⟩)
theorem sc_TooLarge_init : FnScope ["self", "limit"] ["self", "limit"] (defScope s_TooLarge_init) := ⟨rfl, rfl, rfl, by decide +kernel, rfl, by decide +kernel, by decide +kernel⟩
abbrev s_Table_init : Stmt := (clsS (top 26)).getD 1 (.Pass ⟨0, 0, 0, 0⟩)
theorem sc_Table_init : FnScope ["self", "width", "counts", "window"] ["self", "width", "counts"] (defScope s_Table_init) := ⟨rfl, rfl, rfl, by decide +kernel, rfl, by decide +kernel, by decide +kernel⟩
abbrev s_Table_of : Stmt := (clsS (top 26)).getD 2 (.Pass ⟨0, 0, 0, 0⟩)
theorem sc_Table_of : FnScope ["cls", "row", "width"] ["cls", "row", "width"] (defScope s_Table_of) := ⟨rfl, rfl, rfl, by decide +kernel, rfl, by decide +kernel, by decide +kernel⟩
abbrev s_Table_width : Stmt := (clsS (top 26)).getD 3 (.Pass ⟨0, 0, 0, 0⟩)
theorem sc_Table_width : FnScope ["self"] ["self"] (defScope s_Table_width) := ⟨rfl, rfl, rfl, by decide +kernel, rfl, by decide +kernel, by decide +kernel⟩
abbrev s_Table_counts : Stmt := (clsS (top 26)).getD 4 (.Pass ⟨0, 0, 0, 0⟩)
theorem sc_Table_counts : FnScope ["self", "window"] ["self"] (defScope s_Table_counts) := ⟨rfl, rfl, rfl, by decide +kernel, rfl, by decide +kernel, by decide +kernel⟩
abbrev s_Table_total : Stmt := (clsS (top 26)).getD 5 (.Pass ⟨0, 0, 0, 0⟩)
theorem sc_Table_total : FnScope ["self", "window"] ["self"] (defScope s_Table_total) := ⟨rfl, rfl, rfl, by decide +kernel, rfl, by decide +kernel, by decide +kernel⟩
abbrev s_Table_times_of : Stmt := (clsS (top 26)).getD 6 (.Pass ⟨0, 0, 0, 0⟩)
theorem sc_Table_times_of : FnScope ["self", "window"] ["self", "window"] (defScope s_Table_times_of) := ⟨rfl, rfl, rfl, by decide +kernel, rfl, by decide +kernel, by decide +kernel⟩
abbrev s_Table_check_other : Stmt := (clsS (top 26)).getD 7 (.Pass ⟨0, 0, 0, 0⟩)
theorem sc_Table_check_other : FnScope ["self", "value"] ["self", "value"] (defScope s_Table_check_other) := ⟨rfl, rfl, rfl, by decide +kernel, rfl, by decide +kernel, by decide +kernel⟩
abbrev s_Table_check_size : Stmt := (clsS (top 26)).getD 8 (.Pass ⟨0, 0, 0, 0⟩)
theorem sc_Table_check_size : FnScope ["self", "number"] ["self", "number"] (defScope s_Table_check_size) := ⟨rfl, rfl, rfl, by decide +kernel, rfl, by decide +kernel, by decide +kernel⟩
abbrev s_Table_add : Stmt := (clsS (top 26)).getD 9 (.Pass ⟨0, 0, 0, 0⟩)
theorem sc_Table_add : FnScope ["self", "other", "windows", "window"] ["self", "other"] (defScope s_Table_add) := ⟨rfl, rfl, rfl, by decide +kernel, rfl, by decide +kernel, by decide +kernel⟩
abbrev s_Table_sub : Stmt := (clsS (top 26)).getD 10 (.Pass ⟨0, 0, 0, 0⟩)
theorem sc_Table_sub : FnScope ["self", "other", "window", "left"] ["self", "other"] (defScope s_Table_sub) := ⟨rfl, rfl, rfl, by decide +kernel, rfl, by decide +kernel, by decide +kernel⟩
abbrev s_Table_mul : Stmt := (clsS (top 26)).getD 11 (.Pass ⟨0, 0, 0, 0⟩)
theorem sc_Table_mul : FnScope ["self", "other", "window"] ["self", "other"] (defScope s_Table_mul) := ⟨rfl, rfl, rfl, by decide +kernel, rfl, by decide +kernel, by decide +kernel⟩
abbrev s_Table_invert : Stmt := (clsS (top 26)).getD 12 (.Pass ⟨0, 0, 0, 0⟩)
theorem sc_Table_invert : FnScope ["self", "window"] ["self"] (defScope s_Table_invert) := ⟨rfl, rfl, rfl, by decide +kernel, rfl, by decide +kernel, by decide +kernel⟩
abbrev s_Table_contains : Stmt := (clsS (top 26)).getD 13 (.Pass ⟨0, 0, 0, 0⟩)
theorem sc_Table_contains : FnScope ["self", "value"] ["self", "value"] (defScope s_Table_contains) := ⟨rfl, rfl, rfl, by decide +kernel, rfl, by decide +kernel, by decide +kernel⟩
abbrev s_Table_len : Stmt := (clsS (top 26)).getD 14 (.Pass ⟨0, 0, 0, 0⟩)
theorem sc_Table_len : FnScope ["self"] ["self"] (defScope s_Table_len) := ⟨rfl, rfl, rfl, by decide +kernel, rfl, by decide +kernel, by decide +kernel⟩
abbrev s_Table_eq : Stmt := (clsS (top 26)).getD 15 (.Pass ⟨0, 0, 0, 0⟩)
theorem sc_Table_eq : FnScope ["self", "other"] ["self", "other"] (defScope s_Table_eq) := ⟨rfl, rfl, rfl, by decide +kernel, rfl, by decide +kernel, by decide +kernel⟩
abbrev s_Table_call : Stmt := (clsS (top 26)).getD 16 (.Pass ⟨0, 0, 0, 0⟩)
theorem sc_Table_call : FnScope ["self", "row"] ["self", "row"] (defScope s_Table_call) := ⟨rfl, rfl, rfl, by decide +kernel, rfl, by decide +kernel, by decide +kernel⟩
end Y

/-! ### rows -/
namespace Y
open PySem PySem.Spec L2 SX Z
/-- what the text leaves to the built-ins -/
def BIs (mg : Str → Option Value) (xs : List Str) : Prop := ∀ x ∈ xs, mg x = none
theorem gl_int {F : PySem.W.Frag} {mg : Str → Option Value} {x : Str} {i : Int} {t : Tok} (h : mg x = some (.int i t)) : GlT F mg x (.int i) := ⟨_, .int i, h, ⟨t, rfl⟩, fun _ => .int i⟩
theorem gl_str {F : PySem.W.Frag} {mg : Str → Option Value} {x : Str} {s : Str} {t : Tok} (h : mg x = some (.str s t)) : GlT F mg x (.str (sOf s)) := ⟨_, .str s, h, ⟨t, rfl⟩, fun H => by have := Rep.str (F := F) (H := H) (sOf s); rwa [S_sOf] at this⟩
theorem sOf_LET : sOf "abcdefghijklmnopqrstuvwxyz" = LET := by
  unfold sOf
  rw [LET_str]
/-- is a value a text of lo to hi letters -/
def isLettersV (x : DT) (lo hi : Int) : Bool := match x with
  | .str s => decide (lo ≤ s.length) && decide ((s.length : Int) ≤ hi) && s.all isLet
  | _ => false
def isRowV (x : DT) : Bool := isLettersV x 1 200
def rowOk (r : List Nat) : Prop := 1 ≤ r.length ∧ r.length ≤ 200 ∧ r.all isLet = true
theorem isRowV_ok {r : List Nat} (h : rowOk r) : isRowV (.str r) = true := by
  obtain ⟨h1, h2, h3⟩ := h
  unfold isRowV isLettersV
  simp only [h3, Bool.and_true, Bool.and_eq_true, decide_eq_true_eq]
  omega
def spLetters : TSpec := fun ds σ Q E => ∃ x lo hi, ds = [x, .int lo, .int hi] ∧ (tyT σ x).isSome = true ∧ (∀ s, x = .str s → s.length ≤ 1000000) ∧ Q (.bl (isLettersV x lo hi)) σ
def spRow : TSpec := fun ds σ Q E => ∃ x, ds = [x] ∧ (tyT σ x).isSome = true ∧ (∀ s, x = .str s → s.length ≤ 1000000) ∧ Q (.bl (isRowV x)) σ
section
variable {P : Program} {w : World} {F : PySem.W.Frag} {mg : Str → Option Value} {base : Heap}
theorem ok_is_letters (Fn : DfN F mg "is_letters" ["value", "low", "high"] s_is_letters) (gL : GlT F mg "LETTERS" (.str (sOf "abcdefghijklmnopqrstuvwxyz"))) (b1 : mg "isinstance" = none) (b2 : mg "len" = none) (b3 : mg "all" = none) (b4 : mg "str" = none) :
    Dt P w F mg base "is_letters" ["value", "low", "high"] 1 spLetters := by
  refine dt_ok Fn sc_is_letters (fun ds σ Q E h => ?_) (fun ds σ Q E Wx h => ?_)
  · obtain ⟨x, lo, hi, rfl, _⟩ := h
    rfl
  · obtain ⟨x, lo, hi, rfl, ht, hz, q⟩ := h
    refine tk_ret ?_ q
    cases x with
    | str s =>
      have hl := hz s rfl
      refine TV.castB (tv_and (r := true) (by walk_at "v") (fun _ => tv_and (tv_chain (by walk_at "v") (by walk_at "v") (fun _ => by walk_at "v") (by walk_at "o2") (fun _ => by walk_at "o2")) (fun _ => tv_one (tv_callB (by rfl) (by walk_at "as") (by walk_at "bt") (tva_cons (TV.castL (j := (s.map isLet).map DT.bl) (tv_lcM (own := [("sign", 3)]) (t := .nm 3) (by walk_at "tgt") (by walk_at "blk") (by decide) (tvi_str (by walk_at "v")) (by walk_at "len") (fun _ _ => rfl) (f := fun k => .bl (isLet k)) (fun a _ => ?_)) (by rw [List.map_map]; rfl)) tva_nil) (pf_all lsT_l))))) ?_
      · refine TV.castB (by walk_at "v") ?_
        rw [sOf_LET, mem_LET]
      · unfold isLettersV
        simp [List.all_map, Bool.and_assoc]
    | non => exact TV.castB (tv_and (r := false) (s := true) (by walk_at "v") (fun z => nomatch z)) rfl
    | bl b => exact TV.castB (tv_and (r := false) (s := true) (by walk_at "v") (fun z => nomatch z)) rfl
    | int i => exact TV.castB (tv_and (r := false) (s := true) (by walk_at "v") (fun z => nomatch z)) rfl
    | lst xs => exact TV.castB (tv_and (r := false) (s := true) (by walk_at "v") (fun z => nomatch z)) rfl
    | tup xs => exact TV.castB (tv_and (r := false) (s := true) (by walk_at "v") (fun z => nomatch z)) rfl
    | dct xs => exact TV.castB (tv_and (r := false) (s := true) (by walk_at "v") (fun z => nomatch z)) rfl
    | ref p =>
      have ht : (tyT σ (.ref p)).isSome = true := ht
      unfold tyT at ht
      cases e : σ p with
      | none => simp [e] at ht
      | some c =>
        cases c with
        | lst xs => exact TV.castB (tv_and (r := false) (s := true) (tv_callB (by rfl) (by walk_at "as") (by walk_at "bt") (by walk_at "va") (pf_isi (t := "list") (by simp [tyT, e]) (by decide +kernel))) (fun z => nomatch z)) rfl
        | dct xs => exact TV.castB (tv_and (r := false) (s := true) (tv_callB (by rfl) (by walk_at "as") (by walk_at "bt") (by walk_at "va") (pf_isi (t := "dict") (by simp [tyT, e]) (by decide +kernel))) (fun z => nomatch z)) rfl
        | obj C xs => simp [e] at ht
    | seq xs => cases ht
    | obj C xs => cases ht
    | ty n => cases ht
    | exc C xs => cases ht
    | hot a d xs => cases ht
theorem v_is_letters {c : Ct} {ρ : EnvT} {σ : Sg} {x : DT} {lo hi : Int} {a : Expr} {es : List Expr} {pos p : Pos} (L : DtQ c.hp c.P c.w c.K c.mg c.base "is_letters" ["value", "low", "high"] 1 spLetters) (hk : 1 ≤ c.k) (hg : GlS c "is_letters") (ha : TVA c (a :: es) ρ σ [x, .int lo, .int hi]) (ht : (tyT σ x).isSome = true) (hz : ∀ s, x = .str s → s.length ≤ 1000000)
    (he : ∀ env, starEach (a :: es) env = (false, eval a env) :: starEach es env := by intro _; rfl) (hpl : ∀ pos env, (backTo pos (starEach es env)).any (·.1) = false := by intro _ _; rfl) : TV c (.Call (.Name "is_letters" p) (a :: es) [] pos) ρ σ (.bl (isLettersV x lo hi)) :=
  tv_own L hk hg ha (fun q => ⟨_, _, _, rfl, ht, hz, q⟩) (by decide) he hpl
theorem ok_is_row (L : Dt P w F mg base "is_letters" ["value", "low", "high"] 1 spLetters) (Fn : DfN F mg "is_row" ["value"] s_is_row) (g : GlT F mg "MOST_LETTERS" (.int 200)) : Dt P w F mg base "is_row" ["value"] 2 spRow := by
  refine dt_ok Fn sc_is_row (fun ds σ Q E h => ?_) (fun ds σ Q E Wx h => ?_)
  · obtain ⟨x, rfl, _⟩ := h
    rfl
  · obtain ⟨x, rfl, ht, hz, q⟩ := h
    exact tk_ret (v_is_letters L (by walk_at "k") (by rfl) (by walk_at "va") ht hz) q
theorem v_is_row {c : Ct} {ρ : EnvT} {σ : Sg} {x : DT} {a : Expr} {es : List Expr} {pos p : Pos} (L : DtQ c.hp c.P c.w c.K c.mg c.base "is_row" ["value"] 2 spRow) (hk : 2 ≤ c.k) (hg : GlS c "is_row") (ha : TVA c (a :: es) ρ σ [x]) (ht : (tyT σ x).isSome = true) (hz : ∀ s, x = .str s → s.length ≤ 1000000)
    (he : ∀ env, starEach (a :: es) env = (false, eval a env) :: starEach es env := by intro _; rfl) (hpl : ∀ pos env, (backTo pos (starEach es env)).any (·.1) = false := by intro _ _; rfl) : TV c (.Call (.Name "is_row" p) (a :: es) [] pos) ρ σ (.bl (isRowV x)) :=
  tv_own L hk hg ha (fun q => ⟨_, rfl, ht, hz, q⟩) (by decide) he hpl
end
end Y

/-! ### tables: counts, making -/
namespace Y
open PySem PySem.Spec L2 SX Z
abbrev CS := List (List Nat × Int)
def cT (t : CS) : CK := t.map fun p => (.inr p.1, p.2)
def cD (t : CS) : List (DK × DT) := iD (cT t)
def cget (t : CS) (k : List Nat) : Option Int := ivl (cT t) (.inr k)
def csum (t : CS) : Int := (t.map (·.2)).sum
def srtC (t : CS) : CS := (srtT (t.map (·.1))).map fun k => (k, (cget t k).getD 0)
structure CSok (w : Nat) (t : CS) : Prop where
  nd : (t.map (·.1)).Nodup
  key : ∀ p ∈ t, p.1.length = w ∧ p.1.all isLet = true
  pos : ∀ p ∈ t, 1 ≤ p.2
  sum : csum t + w ≤ 201
def tabT (C : Addr) (w : Nat) (t : CS) : DT := .obj C [("letters", .int (w : Int)), ("found", .dct (cD t))]
theorem cD_get (t : CS) (k : List Nat) : dvl (cD t) (.inr k) = (cget t k).map DT.int := dvl_iD _ _
theorem cD_keys (t : CS) : (cD t).map (·.1) = (t.map (·.1)).map Sum.inr := by unfold cD iD cT; simp [List.map_map, Function.comp_def]
theorem cD_walk (t : CS) : ((cD t).map fun x => dk x.1) = t.map fun p => DT.str p.1 := by unfold cD iD cT; simp [List.map_map, Function.comp_def, dk]
theorem cget_cons (p : List Nat × Int) (t : CS) (k : List Nat) : cget (p :: t) k = if p.1 = k then some p.2 else cget t k := by
  unfold cget ivl cT
  rw [List.map_cons, List.find?_cons]
  by_cases e : p.1 = k
  · simp [e]
  · simp [e]
theorem cget_mem {t : CS} (h : (t.map (·.1)).Nodup) : ∀ p ∈ t, cget t p.1 = some p.2 := by
  induction t with
  | nil => intro p hp; cases hp
  | cons q t ih =>
    intro p hp
    rw [List.map_cons, List.nodup_cons] at h
    rw [cget_cons]
    rcases List.mem_cons.mp hp with e | hp
    · rw [e, if_pos rfl]
    · rw [if_neg (fun e : q.1 = p.1 => h.1 (by rw [e]; exact List.mem_map.mpr ⟨p, hp, rfl⟩))]
      exact ih h.2 p hp
theorem CSok.len {w : Nat} {t : CS} (h : CSok w t) : (t.length : Int) ≤ csum t := by
  have : ∀ l : CS, (∀ p ∈ l, 1 ≤ p.2) → (l.length : Int) ≤ csum l := by
    intro l
    induction l with
    | nil => intro _; exact Int.le_refl _
    | cons p l ih =>
      intro hp
      have h1 := hp p List.mem_cons_self
      have h2 := ih fun q hq => hp q (List.mem_cons_of_mem _ hq)
      unfold csum at h2 ⊢
      rw [List.map_cons, List.sum_cons, List.length_cons]
      omega
  exact this t h.pos
def spInt : TSpec := fun ds σ Q E => ∃ (i lo : Int) (hi : Option Int), ds = [.int i, .int lo, (match hi with | some h => .int h | none => .non)] ∧ Q (.bl (decide (lo ≤ i) && (match hi with | some h => decide (i ≤ h) | none => true))) σ
def spMost : TSpec := fun ds σ Q E => ∃ w : Int, ds = [.int w] ∧ Q (.int (200 - w + 1)) σ
def spIsCounts : TSpec := fun ds σ Q E => ∃ (w : Nat) (t : CS), ds = [.int (w : Int), .dct (cD t)] ∧ 1 ≤ w ∧ w ≤ 12 ∧ CSok w t ∧ Q (.bl true) σ
def spInit (C : Addr) : TSpec := fun ds σ Q E => ∃ (p : Addr) (w : Nat) (t : CS), ds = [.ref p, .int (w : Int), .dct (cD t)] ∧ σ p = some (.obj C []) ∧ 1 ≤ w ∧ w ≤ 12 ∧ CSok w t ∧ Q .non (su σ p (.obj C [("letters", .int (w : Int)), ("found", .dct (cD (srtC t)))]))
section
variable {P : Program} {w : World} {F : PySem.W.Frag} {mg : Str → Option Value} {base : Heap}
set_option maxHeartbeats 200000 in
theorem ok_is_integer (Fn : DfN F mg "is_integer" ["value", "low", "high"] s_is_integer) (b1 : mg "isinstance" = none) (b2 : mg "int" = none) (b3 : mg "bool" = none) : Dt P w F mg base "is_integer" ["value", "low", "high"] 1 spInt := by
  refine dt_ok Fn sc_is_integer (fun ds σ Q E h => ?_) (fun ds σ Q E Wx h => ?_)
  · obtain ⟨i, lo, hi, rfl, _⟩ := h
    rfl
  · obtain ⟨i, lo, hi, rfl, q⟩ := h
    cases hi with
    | none =>
      dsimp only at q ⊢
      refine tk_ifF (TB.cast (tb_W (tbw_or (tb_not (tb_val (tv_callB (by rfl) (by walk_at "as") (by walk_at "bt") (by walk_at "va") (pf_isi (r := true) (by rfl) (by decide +kernel))))) (fun _ => tbw_or1 (tb_val (tv_callB (by rfl) (by walk_at "as") (by walk_at "bt") (by walk_at "va") (pf_isi (r := false) (by rfl) (by decide +kernel))))))) (by rfl)) (tk_nil ?_)
      exact tk_ret (TV.castB (tv_and (by walk_at "v") (fun _ => tv_one (tv_or (r := true) (s := true) (TV.castB (i := isNon .non) (by walk_at "v") rfl) (fun z => nomatch z)))) (by rfl)) q
    | some h =>
      dsimp only at q ⊢
      refine tk_ifF (TB.cast (tb_W (tbw_or (tb_not (tb_val (tv_callB (by rfl) (by walk_at "as") (by walk_at "bt") (by walk_at "va") (pf_isi (r := true) (by rfl) (by decide +kernel))))) (fun _ => tbw_or1 (tb_val (tv_callB (by rfl) (by walk_at "as") (by walk_at "bt") (by walk_at "va") (pf_isi (r := false) (by rfl) (by decide +kernel))))))) (by rfl)) (tk_nil ?_)
      exact tk_ret (TV.castB (tv_and (by walk_at "v") (fun _ => tv_one (tv_or (r := false) (TV.castB (i := isNon (.int h)) (by walk_at "v") rfl) (fun _ => tv_one (by walk_at "v"))))) (by rfl)) q
set_option maxHeartbeats 200000 in
theorem ok_most (Fn : DfN F mg "most_windows" ["width"] s_most_windows) (g : GlT F mg "MOST_LETTERS" (.int 200)) : Dt P w F mg base "most_windows" ["width"] 1 spMost := by
  refine dt_ok Fn sc_most_windows (fun ds σ Q E h => ?_) (fun ds σ Q E Wx h => ?_)
  · obtain ⟨i, rfl, _⟩ := h
    rfl
  · obtain ⟨i, rfl, q⟩ := h
    exact tk_ret (by walk_at "v") q
theorem all_true {α : Type} (l : List α) : (l.map fun _ => true).all id = true := by simp
set_option maxHeartbeats 200000 in
theorem ok_is_counts (L1 : Dt P w F mg base "is_integer" ["value", "low", "high"] 1 spInt) (L2 : Dt P w F mg base "is_letters" ["value", "low", "high"] 1 spLetters) (L3 : Dt P w F mg base "most_windows" ["width"] 1 spMost)
    (Fn : DfN F mg "is_counts" ["width", "value"] s_is_counts) (b1 : mg "isinstance" = none) (b2 : mg "dict" = none) (b3 : mg "all" = none) (b4 : mg "sum" = none) : Dt P w F mg base "is_counts" ["width", "value"] 2 spIsCounts := by
  refine dt_ok Fn sc_is_counts (fun ds σ Q E h => ?_) (fun ds σ Q E Wx h => ?_)
  · obtain ⟨w, t, rfl, _⟩ := h
    rfl
  · obtain ⟨w, t, rfl, w1, w2, ok, q⟩ := h
    have hn : t.length ≤ 1000000 := by have := ok.len; have := ok.sum; omega
    have e1 : (t.map fun p => DT.bl true) = (t.map fun _ => true).map DT.bl := by rw [List.map_map]; rfl
    have e2 : (t.map fun p => DT.int p.2) = (t.map (·.2)).map DT.int := by rw [List.map_map]; rfl
    refine tk_ifF (TB.cast (tb_W (tbw_or (tb_not (tb_val (tv_callB (by rfl) (by walk_at "as") (by walk_at "bt") (by walk_at "va") (pf_isi (r := true) (by rfl) (by decide +kernel))))) (fun _ => tbw_or1 (tb_not (tb_val (tv_callB (by rfl) (by walk_at "as") (by walk_at "bt") (tva_cons (TV.castL (tv_lcM (α := List Nat × Int) (l := t) (g := fun p => .str p.1) (f := fun _ => .bl true) (own := [("window", 2)]) (t := .nm 2) (by walk_at "tgt") (by walk_at "blk") (by decide) (cD_walk t ▸ tvi_keys (by walk_at "v")) hn (fun _ _ => rfl)
      (fun p hp => TV.castB (v_is_letters L2 (by walk_at "k") (by rfl) (by walk_at "va") rfl (fun s e => by cases e; have := (ok.key p hp).1; omega)) (by
        obtain ⟨k1, k2⟩ := ok.key p hp
        unfold isLettersV
        simp only [k1, k2, Bool.and_true, Bool.and_eq_true, decide_eq_true_eq]
        omega))) e1) tva_nil) (pf_all lsT_l))))))) (by rw [all_true]; rfl)) (tk_nil ?_)
    refine tk_ifF (TB.cast (tb_not (tb_val (tv_callB (by rfl) (by walk_at "as") (by walk_at "bt") (tva_cons (TV.castL (tv_lcM (α := List Nat × Int) (l := t) (g := fun p => .str p.1) (f := fun _ => .bl true) (own := [("window", 2)]) (t := .nm 2) (by walk_at "tgt") (by walk_at "blk") (by decide) (cD_walk t ▸ tvi_keys (by walk_at "v")) hn (fun _ _ => rfl)
      (fun p hp => tv_own L1 (by walk_at "k") (by rfl) (tva_cons (tv_dix (d := .int p.2) (k := .inr p.1) (by walk_at "v") (by walk_at "v") diT_l (by rw [cD_get, cget_mem ok.nd p hp]; rfl)) (by walk_at "va")) (fun q => ⟨p.2, 1, none, rfl, by have := ok.pos p hp; rw [decide_eq_true this]; exact q⟩))) e1) tva_nil) (pf_all lsT_l)))) (by rw [all_true]; rfl)) (tk_nil ?_)
    refine tk_ret (TV.castB (j := true) (tv_cmp (tv_callB (by rfl) (by walk_at "as") (by walk_at "bt") (tva_cons (TV.castL (tv_lcM (α := List Nat × Int) (l := t) (g := fun p => .str p.1) (f := fun p => .int p.2) (own := [("window", 2)]) (t := .nm 2) (by walk_at "tgt") (by walk_at "blk") (by decide) (cD_walk t ▸ tvi_keys (by walk_at "v")) hn (fun _ _ => rfl)
      (fun p hp => tv_dix (d := .int p.2) (k := .inr p.1) (by walk_at "v") (by walk_at "v") diT_l (by rw [cD_get, cget_mem ok.nd p hp]; rfl))) e2) tva_nil) (pf_sum lsT_l)) (tv_own (d := .int (200 - (w : Int) + 1)) L3 (by walk_at "k") (by rfl) (by walk_at "va") (fun q => ⟨_, rfl, q⟩)) (by walk_at "o2") (by rfl)) ?_) q
    have := ok.sum
    unfold csum at this
    exact decide_eq_true (by omega)
set_option maxHeartbeats 400000 in
theorem ok_tab_init {C : Addr} {f : Addr} {fd : FuncData} {qual : Str} (L1 : Dt P w F mg base "is_integer" ["value", "low", "high"] 1 spInt) (L2 : Dt P w F mg base "is_counts" ["width", "value"] 2 spIsCounts) (hc : Cls F C) (n1 : NoAttr F C "letters") (n2 : NoAttr F C "found")
    (Fn : Fun F "__init__" qual s_Table_init f fd) (g : GlT F mg "WIDEST" (.int 12)) (b1 : mg "sorted" = none) : FnG P w F mg base 3 f fd ["self", "width", "counts"] (spT F (spInit C)) := by
  refine fnT_ok Fn sc_Table_init (fun ds σ Q E h => ?_) (fun ds σ Q E Wx h => ?_)
  · obtain ⟨p, w, t, rfl, _⟩ := h
    rfl
  · obtain ⟨p, w, t, rfl, hp, w1, w2, ok, q⟩ := h
    refine tk_ifF (TB.cast (tb_not (tb_val (tv_own (d := .bl true) L1 (by walk_at "k") (by rfl) (by walk_at "va") (fun q => ⟨(w : Int), 1, some 12, rfl, by
      have a1 : (1 : Int) ≤ w := by omega
      have a2 : (w : Int) ≤ 12 := by omega
      simp only [decide_eq_true a1, decide_eq_true a2]
      exact q⟩)))) (by rfl)) (tk_nil ?_)
    refine tk_ifF (TB.cast (tb_not (tb_val (tv_own (d := .bl true) L2 (by walk_at "k") (by rfl) (by walk_at "va") (fun q => ⟨w, t, rfl, w1, w2, ok, q⟩)))) (by rfl)) (tk_nil ?_)
    refine tk_cons (ts_setFld ((by walk_at "v" : TV _ _ _ _ (.int (w : Int))).to ((by walk_at "v" : TV _ _ _ _ (.ref p)).to ⟨p, C, [], rfl, hp, hc, n1, Nat.le_of_ble_eq_true rfl, ?_⟩)))
    have hn : (srtT (t.map (·.1))).length ≤ 1000000 := by
      have a := ok.len
      have b := ok.sum
      have c := (srtT_perm (t.map (·.1))).length_eq
      rw [List.length_map] at c
      omega
    have mem : ∀ k ∈ srtT (t.map (·.1)), ∃ i, cget t k = some i := fun k hk => by
      obtain ⟨p, hp, rfl⟩ := List.mem_map.mp ((srtT_perm _).mem_iff.mp hk)
      exact ⟨_, cget_mem ok.nd p hp⟩
    have nd : ((srtT (t.map (·.1))).map (Sum.inr : List Nat → DK)).Nodup := (List.pairwise_map.mpr (((srtT_perm _).nodup_iff.mpr ok.nd).imp fun {a b} h e => h (Sum.inr.inj e)))
    have e1 : (srtT (t.map (·.1))).map (fun k => ((Sum.inr k : DK), DT.int ((cget t k).getD 0))) = cD (srtC t) := by
      unfold cD iD cT srtC
      simp [List.map_map, Function.comp_def]
    refine tk_cons (ts_setFld ((e1 ▸ tv_dc (α := List Nat) (l := srtT (t.map (·.1))) (g := DT.str) (kf := Sum.inr) (vf := fun k => .int ((cget t k).getD 0)) (own := [("window", 3)]) (t := .nm 3) (by walk_at "tgt") (by walk_at "blk") (by decide) (tvi_lst (tv_callB (by rfl) (by walk_at "as") (by walk_at "bt") (by walk_at "va") (pf_sortedDT diT_l (cD_keys t)))) hn (fun _ _ => rfl)
      (fun k hk => ⟨by walk_at "v", by
        obtain ⟨i, hi⟩ := mem k hk
        exact tv_dix (k := .inr k) (by walk_at "v") (by walk_at "v") diT_l (by rw [cD_get, hi]; rfl)⟩) nd : TV _ _ _ _ (.dct (cD (srtC t)))).to ((by walk_at "v" : TV _ _ _ _ (.ref p)).to ⟨p, C, _, rfl, su_same, hc, n2, Nat.le_of_ble_eq_true rfl, ?_⟩)))
    rw [su_su]
    exact tk_nil q
end
end Y

/-! ### tables: what their methods answer -/
namespace Y
open PySem PySem.Spec L2 SX Z
/-- what isinstance asks of the class -/
structure TyC (F : PySem.W.Frag) (C : Addr) : Prop where
  ha : PySem.W.findIn F (.ref C) "__class__" = some (some (.builtin "object.__class__"))
  hn : PySem.W.specialIn F (.builtin "object.__class__") "__get__" = some (some (.builtin "getset_descriptor.__get__"))
  ht : PySem.W.takesIn F (.builtin "object.__class__") = some true
  hm : PySem.W.mroIn F C (.type "object") = some true
theorem pf_isO {c : Ct} {σ : Sg} {C : Addr} {fs : List (Str × DT)} (hc : Cls c.K C) (ty : TyC c.K C) : POF c (.builtin "isinstance") [.obj C fs, .ref C] σ (.bl true) := ⟨fun X hX H K w vs ra Q k => by
  have hX' := hX
  cases hX'
  obtain ⟨v, u2, rfl, rv, ru⟩ := repA_two ra
  cases ru
  obtain ⟨a, dx, ws, rfl, ea, rf⟩ := ObX.now (.inl rfl) w rv
  exact cF_of call_isi ⟨.ref a, .ref C, .ref C, .ref C, true, rfl, .own C, .base (.ins ea hc ty.ha ty.hn ty.ht ty.hm), by unfold PySem.W.kitOne; rw [if_pos (by simp)], k _ H K Gw.refl w (.bl _)⟩⟩
def revC (t : CS) : CS := t.map fun p => (p.1.reverse, p.2)
theorem CSok.rev {w : Nat} {t : CS} (h : CSok w t) : CSok w (revC t) := by
  refine ⟨?_, fun p hp => ?_, fun p hp => ?_, ?_⟩
  · unfold revC
    rw [List.map_map]
    have : (t.map ((fun x : List Nat × Int => x.1) ∘ fun p => (p.1.reverse, p.2))) = (t.map (·.1)).map List.reverse := by rw [List.map_map]; rfl
    rw [this]
    exact List.pairwise_map.mpr (h.nd.imp fun {a b} n e => n (List.reverse_inj.mp e))
  · obtain ⟨q, hq, rfl⟩ := List.mem_map.mp hp
    obtain ⟨a, b⟩ := h.key q hq
    exact ⟨by rw [List.length_reverse]; exact a, by rw [List.all_reverse]; exact b⟩
  · obtain ⟨q, hq, rfl⟩ := List.mem_map.mp hp
    exact h.pos q hq
  · have : csum (revC t) = csum t := by unfold csum revC; rw [List.map_map]; rfl
    rw [this]
    exact h.sum
def spTab (C : Addr) (g : Nat → CS → DT) : TSpec := fun ds σ Q E => ∃ (w : Nat) (t : CS), ds = [tabT C w t] ∧ 1 ≤ w ∧ w ≤ 12 ∧ CSok w t ∧ Q (g w t) σ
def spTimes (C : Addr) : TSpec := fun ds σ Q E => ∃ (w : Nat) (t : CS) (k : List Nat), ds = [tabT C w t, .str k] ∧ k.length = w ∧ w ≤ 12 ∧ k.all isLet = true ∧ Q (.int ((cget t k).getD 0)) σ
def spHas (C : Addr) : TSpec := fun ds σ Q E => ∃ (w : Nat) (t : CS) (k : List Nat), ds = [tabT C w t, .str k] ∧ Q (.bl (cget t k).isSome) σ
def spTabEq (C : Addr) : TSpec := fun ds σ Q E => ∃ (w v : Nat) (t u : CS), ds = [tabT C w t, tabT C v u] ∧ Q (.bl (decide ((w : Int) = v) && eqDI (cT t) (cT u))) σ
section
variable {P : Program} {w : World} {F : PySem.W.Frag} {mg : Str → Option Value} {base : Heap} {C f : Addr} {fd : FuncData} {qual : Str}
local macro_rules | `(tactic| walk_at "fl") => `(tactic| exact tv_fld (by walk_at "v") (.inl rfl) (by assumption) (by assumption) (by rfl))
set_option maxHeartbeats 200000 in
theorem ok_tab_width (hc : Cls F C) (n1 : NoAttr F C "letters") (Fn : Fun F "width" qual s_Table_width f fd) : FnG P w F mg base 1 f fd ["self"] (spT F (spTab C fun w _ => .int (w : Int))) := by
  refine fnT_ok Fn sc_Table_width (fun ds σ Q E h => ?_) (fun ds σ Q E Wx h => ?_)
  · obtain ⟨w, t, rfl, _⟩ := h
    rfl
  · obtain ⟨w, t, rfl, _, _, _, q⟩ := h
    unfold tabT
    exact tk_ret (by walk_at "fl") q
set_option maxHeartbeats 200000 in
theorem ok_tab_len (hc : Cls F C) (n2 : NoAttr F C "found") (b1 : mg "len" = none) (Fn : Fun F "__len__" qual s_Table_len f fd) : FnG P w F mg base 1 f fd ["self"] (spT F (spTab C fun _ t => .int (t.length : Int))) := by
  refine fnT_ok Fn sc_Table_len (fun ds σ Q E h => ?_) (fun ds σ Q E Wx h => ?_)
  · obtain ⟨w, t, rfl, _⟩ := h
    rfl
  · obtain ⟨w, t, rfl, _, _, _, q⟩ := h
    unfold tabT
    exact tk_ret (TV.castI (tv_callB (by rfl) (by walk_at "as") (by walk_at "bt") (tva_cons (by walk_at "fl") tva_nil) (pf_lenD diT_l)) (by simp [cD, iD, cT])) q
theorem cD_eq (t : CS) : (t.map fun p => ((Sum.inr p.1 : DK), DT.int p.2)) = cD t := by unfold cD iD cT; simp [List.map_map, Function.comp_def]
theorem inr_nd {t : CS} (h : (t.map (·.1)).Nodup) : (t.map fun p => (Sum.inr p.1 : DK)).Nodup := by
  have : (t.map fun p => (Sum.inr p.1 : DK)) = (t.map (·.1)).map Sum.inr := by rw [List.map_map]; rfl
  rw [this]
  exact List.pairwise_map.mpr (h.imp fun {a b} n e => n (Sum.inr.inj e))
theorem CSok.small {w : Nat} {t : CS} (h : CSok w t) : t.length ≤ 1000000 := by have := h.len; have := h.sum; omega
set_option maxHeartbeats 200000 in
theorem ok_tab_counts (hc : Cls F C) (n2 : NoAttr F C "found") (Fn : Fun F "counts" qual s_Table_counts f fd) : FnG P w F mg base 1 f fd ["self"] (spT F (spTab C fun _ t => .dct (cD t))) := by
  refine fnT_ok Fn sc_Table_counts (fun ds σ Q E h => ?_) (fun ds σ Q E Wx h => ?_)
  · obtain ⟨w, t, rfl, _⟩ := h
    rfl
  · obtain ⟨w, t, rfl, _, _, ok, q⟩ := h
    unfold tabT
    refine tk_ret (TV.cast (tv_dc (α := List Nat × Int) (l := t) (g := fun p => .str p.1) (kf := fun p => .inr p.1) (vf := fun p => .int p.2) (own := [("window", 1)]) (t := .nm 1) (by walk_at "tgt") (by walk_at "blk") (by decide) (cD_walk t ▸ tvi_keys (by walk_at "fl")) ok.small (fun _ _ => rfl) (fun p hp => ⟨by walk_at "v", tv_dix (k := .inr p.1) (by walk_at "fl") (by walk_at "v") diT_l (by rw [cD_get, cget_mem ok.nd p hp]; rfl)⟩) (inr_nd ok.nd)) (congrArg DT.dct (cD_eq t))) q
set_option maxHeartbeats 200000 in
theorem ok_tab_total (hc : Cls F C) (n2 : NoAttr F C "found") (b1 : mg "sum" = none) (Fn : Fun F "total" qual s_Table_total f fd) : FnG P w F mg base 1 f fd ["self"] (spT F (spTab C fun _ t => .int (csum t))) := by
  refine fnT_ok Fn sc_Table_total (fun ds σ Q E h => ?_) (fun ds σ Q E Wx h => ?_)
  · obtain ⟨w, t, rfl, _⟩ := h
    rfl
  · obtain ⟨w, t, rfl, _, _, ok, q⟩ := h
    unfold tabT
    have e2 : (t.map fun p => DT.int p.2) = (t.map (·.2)).map DT.int := by rw [List.map_map]; rfl
    exact tk_ret (tv_callB (by rfl) (by walk_at "as") (by walk_at "bt") (tva_cons (TV.castL (tv_lcM (α := List Nat × Int) (l := t) (g := fun p => .str p.1) (f := fun p => .int p.2) (own := [("window", 1)]) (t := .nm 1) (by walk_at "tgt") (by walk_at "blk") (by decide) (cD_walk t ▸ tvi_keys (by walk_at "fl")) ok.small (fun _ _ => rfl) (fun p hp => tv_dix (k := .inr p.1) (by walk_at "fl") (by walk_at "v") diT_l (by rw [cD_get, cget_mem ok.nd p hp]; rfl))) e2) tva_nil) (pf_sum lsT_l)) q
set_option maxHeartbeats 200000 in
theorem ok_tab_has (hc : Cls F C) (n2 : NoAttr F C "found") (b1 : mg "isinstance" = none) (b2 : mg "str" = none) (Fn : Fun F "__contains__" qual s_Table_contains f fd) : FnG P w F mg base 1 f fd ["self", "value"] (spT F (spHas C)) := by
  refine fnT_ok Fn sc_Table_contains (fun ds σ Q E h => ?_) (fun ds σ Q E Wx h => ?_)
  · obtain ⟨w, t, k, rfl, _⟩ := h
    rfl
  · obtain ⟨w, t, k, rfl, q⟩ := h
    unfold tabT
    refine tk_ret (TV.castB (tv_and (r := true) (tv_callB (by rfl) (by walk_at "as") (by walk_at "bt") (by walk_at "va") (pf_isi (by rfl) (by decide +kernel))) (fun _ => tv_one (tv_cmp (x := dk (.inr k)) (by walk_at "v") (by walk_at "fl") (po_inD (k := .inr k) diT_l) (by rfl)))) ?_) q
    rw [cD_get]
    cases cget t k <;> rfl
set_option maxHeartbeats 200000 in
theorem ok_tab_times (L : Dt P w F mg base "is_letters" ["value", "low", "high"] 1 spLetters) (hc : Cls F C) (n1 : NoAttr F C "letters") (n2 : NoAttr F C "found") (Fn : Fun F "times_of" qual s_Table_times_of f fd) : FnG P w F mg base 2 f fd ["self", "window"] (spT F (spTimes C)) := by
  refine fnT_ok Fn sc_Table_times_of (fun ds σ Q E h => ?_) (fun ds σ Q E Wx h => ?_)
  · obtain ⟨w, t, k, rfl, _⟩ := h
    rfl
  · obtain ⟨w, t, k, rfl, k1, w2, k2, q⟩ := h
    unfold tabT
    refine tk_ifF (TB.cast (tb_not (tb_val (TV.castB (j := true) (v_is_letters L (by walk_at "k") (by rfl) (tva_cons (by walk_at "v") (tva_cons (by walk_at "fl") (tva_cons (by walk_at "fl") tva_nil))) rfl (fun s e => by cases e; omega)) (by
      unfold isLettersV
      simp only [k1, k2, Bool.and_true, Bool.and_eq_true, decide_eq_true_eq]
      omega)))) (by rfl)) (tk_nil ?_)
    refine tk_ret (TV.cast (tv_meth PySem.F.plainAttrs_dict PySem.F.slot_dict_get PySem.F.type_dict_get (by walk_at "fl") (ty_dct diT_l) (by walk_at "va") (pm_get2 (k := .inr k) (d := .int 0) diT_l)) ?_) q
    rw [cD_get]
    cases cget t k <;> rfl
set_option maxHeartbeats 200000 in
theorem ok_tab_eq (hc : Cls F C) (ty : TyC F C) (n1 : NoAttr F C "letters") (n2 : NoAttr F C "found") (g : GlT F mg "Table" (.ref C)) (b1 : mg "isinstance" = none) (Fn : Fun F "__eq__" qual s_Table_eq f fd) : FnG P w F mg base 1 f fd ["self", "other"] (spT F (spTabEq C)) := by
  refine fnT_ok Fn sc_Table_eq (fun ds σ Q E h => ?_) (fun ds σ Q E Wx h => ?_)
  · obtain ⟨w, v, t, u, rfl, _⟩ := h
    rfl
  · obtain ⟨w, v, t, u, rfl, q⟩ := h
    unfold tabT
    exact tk_ret (TV.castB (tv_and (r := true) (tv_callB (by rfl) (by walk_at "as") (by walk_at "bt") (by walk_at "va") (pf_isO hc ty)) (fun _ => tv_and (tv_cmp (by walk_at "fl") (by walk_at "fl") (by walk_at "o2") (by rfl)) (fun _ => tv_one (tv_cmp (by walk_at "fl") (by walk_at "fl") (po_eqDI diT_l diT_l) (by rfl))))) (by rw [Bool.true_and])) q
set_option maxHeartbeats 200000 in
theorem ok_tab_inv (hc : Cls F C) (n1 : NoAttr F C "letters") (n2 : NoAttr F C "found") (hm : mg "Table" = some (.ref C)) (M : DtI P w F mg base C ["self", "width", "counts"] 3 (spInit C)) (Fn : Fun F "__invert__" qual s_Table_invert f fd) : FnG P w F mg base 5 f fd ["self"] (spT F (spTab C fun w t => tabT C w (srtC (revC t)))) := by
  refine fnT_ok Fn sc_Table_invert (fun ds σ Q E h => ?_) (fun ds σ Q E Wx h => ?_)
  · obtain ⟨w, t, rfl, _⟩ := h
    rfl
  · obtain ⟨w, t, rfl, w1, w2, ok, q⟩ := h
    unfold tabT at q ⊢
    have e1 : (t.map fun p => ((Sum.inr p.1.reverse : DK), DT.int p.2)) = cD (revC t) := by unfold cD iD cT revC; simp [List.map_map, Function.comp_def]
    have nd : (t.map fun p => (Sum.inr p.1.reverse : DK)).Nodup := by
      have := inr_nd ok.rev.nd
      unfold revC at this
      rw [List.map_map] at this
      exact this
    refine tk_ret (tv_make M (by walk_at "k") (by rfl) hm (tva_cons (by walk_at "fl") (tva_cons (TV.cast (tv_dc (α := List Nat × Int) (l := t) (g := fun p => .str p.1) (kf := fun p => .inr p.1.reverse) (vf := fun p => .int p.2) (own := [("window", 1)]) (t := .nm 1) (by walk_at "tgt") (by walk_at "blk") (by decide) (cD_walk t ▸ tvi_keys (by walk_at "fl")) ok.small (fun _ _ => rfl)
      (fun p hp => ⟨tv_revS (by walk_at "v") (by have := (ok.key p hp).1; omega), tv_dix (k := .inr p.1) (by walk_at "fl") (by walk_at "v") diT_l (by rw [cD_get, cget_mem ok.nd p hp]; rfl)⟩) nd) (congrArg DT.dct e1)) tva_nil)) (fun p hp z => ⟨p, w, revC t, rfl, su_same, w1, w2, ok.rev, by rw [su_su]; exact z⟩)) q
end
end Y

/-! ### tables of rows -/
namespace Y
open PySem PySem.Spec L2 SX Z
def winL (r : List Nat) (w : Nat) : List (List Nat) := (List.range (r.length + 1 - w)).map fun i => (r.drop i).take w
/-- one window more -/
def addC (t : CS) (k : List Nat) : CS := if (t.any fun p => decide (p.1 = k)) = true then t.map (fun p => if p.1 = k then (p.1, (cget t k).getD 0 + 1) else p) else t ++ [(k, 1)]
def tal (l : List (List Nat)) : CS := l.foldl addC []
theorem cget_none {t : CS} {k : List Nat} (h : (t.any fun p => decide (p.1 = k)) = false) : cget t k = none := by
  induction t with
  | nil => rfl
  | cons p t ih =>
    rw [List.any_cons, Bool.or_eq_false_iff] at h
    rw [cget_cons, if_neg (of_decide_eq_false h.1)]
    exact ih h.2
theorem cD_any (t : CS) (k : List Nat) : ((cD t).any fun e => decide (e.1 = Sum.inr k)) = t.any fun p => decide (p.1 = k) := by
  unfold cD iD cT
  rw [List.map_map, List.any_map]
  congr 1
  funext p
  simp
theorem cD_add (t : CS) (k : List Nat) : putT (cD t) (.inr k) (.int ((cget t k).getD 0 + 1)) = cD (addC t k) := by
  unfold putT addC
  rw [cD_any]
  cases h : t.any fun p => decide (p.1 = k) with
  | true =>
    simp only [if_true]
    unfold cD iD cT
    simp only [List.map_map]
    refine List.map_congr_left fun p _ => ?_
    by_cases e : p.1 = k
    · simp [e]
    · simp [e]
  | false =>
    rw [cget_none h]
    simp [cD, iD, cT]
theorem tal_snoc (l : List (List Nat)) (k : List Nat) : tal (l ++ [k]) = addC (tal l) k := by unfold tal; rw [List.foldl_append]; rfl
theorem addC_keys (t : CS) (k : List Nat) : ∀ x, x ∈ (addC t k).map (·.1) ↔ x ∈ t.map (·.1) ∨ x = k := by
  intro x
  unfold addC
  cases h : t.any fun p => decide (p.1 = k) with
  | true =>
    rw [if_pos rfl]
    have e : ((t.map fun p => if p.1 = k then (p.1, (cget t k).getD 0 + 1) else p).map (·.1)) = t.map (·.1) := by
      rw [List.map_map]
      refine List.map_congr_left fun p _ => ?_
      show (if p.1 = k then (p.1, (cget t k).getD 0 + 1) else p).1 = p.1
      split <;> rfl
    rw [e]
    obtain ⟨p, hp, hk⟩ := List.any_eq_true.mp h
    have : k ∈ t.map (·.1) := List.mem_map.mpr ⟨p, hp, of_decide_eq_true hk⟩
    exact ⟨.inl, fun z => z.elim id fun z => z ▸ this⟩
  | false => simp
theorem addC_nd {t : CS} {k : List Nat} (h : (t.map (·.1)).Nodup) : ((addC t k).map (·.1)).Nodup := by
  unfold addC
  cases e : t.any fun p => decide (p.1 = k) with
  | true =>
    rw [if_pos rfl]
    have e2 : ((t.map fun p => if p.1 = k then (p.1, (cget t k).getD 0 + 1) else p).map (·.1)) = t.map (·.1) := by
      rw [List.map_map]
      refine List.map_congr_left fun p _ => ?_
      show (if p.1 = k then (p.1, (cget t k).getD 0 + 1) else p).1 = p.1
      split <;> rfl
    rw [e2]
    exact h
  | false =>
    rw [if_neg (by decide), List.map_append, List.nodup_append]
    refine ⟨h, by simp, fun a ha b hb => ?_⟩
    obtain ⟨p, hp, rfl⟩ := List.mem_map.mp ha
    have := List.any_eq_false.mp e p hp
    simp only [List.map_cons, List.map_nil, List.mem_singleton] at hb
    rw [hb]
    simpa using this
theorem tal_nd (l : List (List Nat)) : ((tal l).map (·.1)).Nodup := by
  have : ∀ (l : List (List Nat)) (t : CS), (t.map (·.1)).Nodup → ((l.foldl addC t).map (·.1)).Nodup := by
    intro l
    induction l with
    | nil => intro t h; exact h
    | cons k l ih => intro t h; exact ih _ (addC_nd h)
  exact this l [] List.nodup_nil
theorem tal_len (l : List (List Nat)) : (tal l).length ≤ l.length := by
  have one : ∀ (t : CS) (k : List Nat), (addC t k).length ≤ t.length + 1 := fun t k => by
    unfold addC
    split
    · rw [List.length_map]; omega
    · simp
  have : ∀ (l : List (List Nat)) (t : CS), (l.foldl addC t).length ≤ t.length + l.length := by
    intro l
    induction l with
    | nil => intro t; exact Nat.le_refl _
    | cons k l ih =>
      intro t
      have a := ih (addC t k)
      have b := one t k
      rw [List.foldl_cons, List.length_cons]
      omega
  have := this l []
  simpa [tal] using this
def spWins : TSpec := fun ds σ Q E => ∃ (r : List Nat) (w : Nat), ds = [.str r, .int (w : Int)] ∧ r.length ≤ 200 ∧ w ≤ 200 ∧ Q (.lst ((winL r w).map DT.str)) σ
def spCountsIn : TSpec := fun ds σ Q E => ∃ (r : List Nat) (w : Nat), ds = [.str r, .int (w : Int)] ∧ r.length ≤ 200 ∧ w ≤ 200 ∧ Q (.dct (cD (srtC (tal (winL r w))))) σ
section
variable {P : Program} {w : World} {F : PySem.W.Frag} {mg : Str → Option Value} {base : Heap}
set_option maxHeartbeats 200000 in
theorem ok_windows_in (Fn : DfN F mg "windows_in" ["row", "width"] s_windows_in) (b1 : mg "range" = none) (b2 : mg "len" = none) : Dt P w F mg base "windows_in" ["row", "width"] 1 spWins := by
  refine dt_ok Fn sc_windows_in (fun ds σ Q E h => ?_) (fun ds σ Q E Wx h => ?_)
  · obtain ⟨r, w, rfl, _⟩ := h
    rfl
  · obtain ⟨r, w, rfl, hr, hw, q⟩ := h
    have e1 : ((r.length : Int) - w + 1).toNat = r.length + 1 - w := by omega
    have e2 : ((List.range (((r.length : Int) - w + 1).toNat)).map fun i => DT.str ((r.drop i).take w)) = (winL r w).map DT.str := by rw [e1]; unfold winL; rw [List.map_map]; rfl
    refine tk_ret (TV.castL (tv_lcM (α := Nat) (l := List.range (((r.length : Int) - w + 1).toNat)) (g := fun i => .int (i : Int)) (f := fun i => .str ((r.drop i).take w)) (own := [("place", 2)]) (t := .nm 2) (by walk_at "tgt") (by walk_at "blk") (by decide) (⟨fun q => ti_range1 (by rfl) (by walk_at "as") (te_v (by walk_at "v") ⟨_, rfl, by omega, q⟩)⟩) (by rw [List.length_range]; omega) (fun _ _ => rfl)
      (fun i _ => TV.castS (by walk_at "v") ((Z.cut_two (i := i) (j := i + w) rfl (by omega)).trans (by rw [Nat.add_sub_cancel_left])))) e2) q
theorem win_len (r : List Nat) (w : Nat) : (winL r w).length = r.length + 1 - w := by unfold winL; simp
set_option maxHeartbeats 400000 in
theorem ok_counts_in (L : Dt P w F mg base "windows_in" ["row", "width"] 1 spWins) (Fn : DfN F mg "counts_in" ["row", "width"] s_counts_in) (b1 : mg "sorted" = none) : Dt P w F mg base "counts_in" ["row", "width"] 2 spCountsIn := by
  refine dt_ok Fn sc_counts_in (fun ds σ Q E h => ?_) (fun ds σ Q E Wx h => ?_)
  · obtain ⟨r, w, rfl, _⟩ := h
    rfl
  · obtain ⟨r, w, rfl, hr, hw, q⟩ := h
    have hwn : (winL r w).length ≤ 201 := by rw [win_len]; omega
    refine tk_set (i := 2) (by walk_at "sto") (te_dict0 fun p hp => ?_)
    refine tk_cons (ts_for (t := .nm 3) (by walk_at "tgt") ((tvi_lst (ds := (winL r w).map DT.str) (tv_own L (by walk_at "k") (by rfl) (by walk_at "va") (fun q => ⟨r, w, rfl, hr, hw, q⟩))).to ?_))
    refine ⟨fun i ρ1 σ2 => ∃ o, σ2 = su σ p (.dct (cD (tal ((winL r w).take i)))) ∧ ρ1 = [some (.str r), some (.int (w : Int)), some (.ref p), o], ⟨none, rfl, rfl⟩, ?_, ?_⟩
    · rintro i d ρ1 σ2 hd ⟨o, rfl, rfl⟩
      rw [List.getElem?_map] at hd
      obtain ⟨k, hk, rfl⟩ := Option.map_eq_some_iff.mp hd
      have tk : (winL r w).take (i + 1) = (winL r w).take i ++ [k] := by rw [List.take_succ, hk]; rfl
      have hl : (cD (tal ((winL r w).take i))).length < 16777216 := by
        have a := tal_len ((winL r w).take i)
        have b : ((winL r w).take i).length ≤ 201 := by rw [List.length_take]; omega
        have e : (cD (tal ((winL r w).take i))).length = (tal ((winL r w).take i)).length := by simp [cD, iD, cT]
        omega
      have eg : (dvl (cD (tal ((winL r w).take i))) (.inr k)).getD (.int 0) = .int ((cget (tal ((winL r w).take i)) k).getD 0) := by
        rw [cD_get]
        cases cget (tal ((winL r w).take i)) k <;> rfl
      refine ⟨_, rfl, ?_⟩
      refine tk_cons (ts_setItemD ((tv_bin (TV.cast (tv_meth PySem.F.plainAttrs_dict PySem.F.slot_dict_get PySem.F.type_dict_get (by walk_at "v") (ty_dct (diT_c su_same)) (by walk_at "va") (pm_get2 (k := .inr k) (d := .int 0) (diT_c su_same))) eg) (by walk_at "v") po_addI).to ((by walk_at "v" : TV _ _ _ _ (.ref p)).to ((by walk_at "v" : TV _ _ _ _ (.str k)).to ⟨p, _, .inr k, rfl, rfl, su_same, hl, ?_⟩))))
      rw [su_su, cD_add, ← tal_snoc, ← tk]
      exact tk_nil ⟨_, rfl, rfl⟩
    · rintro ρ1 σ2 ⟨o, rfl, rfl⟩
      rw [List.length_map, List.take_length]
      have nd0 := tal_nd (winL r w)
      have ln := tal_len (winL r w)
      have hn : (srtT ((tal (winL r w)).map (·.1))).length ≤ 1000000 := by
        have c := (srtT_perm ((tal (winL r w)).map (·.1))).length_eq
        rw [List.length_map] at c
        omega
      have nd : ((srtT ((tal (winL r w)).map (·.1))).map (Sum.inr : List Nat → DK)).Nodup := (List.pairwise_map.mpr (((srtT_perm _).nodup_iff.mpr nd0).imp fun {a b} h e => h (Sum.inr.inj e)))
      have mem : ∀ k ∈ srtT ((tal (winL r w)).map (·.1)), ∃ i, cget (tal (winL r w)) k = some i := fun k hk => by
        obtain ⟨p, hp, rfl⟩ := List.mem_map.mp ((srtT_perm _).mem_iff.mp hk)
        exact ⟨_, cget_mem nd0 p hp⟩
      have e1 : (srtT ((tal (winL r w)).map (·.1))).map (fun k => ((Sum.inr k : DK), DT.int ((cget (tal (winL r w)) k).getD 0))) = cD (srtC (tal (winL r w))) := by
        unfold cD iD cT srtC
        simp [List.map_map, Function.comp_def]
      refine tk_cons (ts_ret (te_drop p ((TV.cast (tv_dc (α := List Nat) (l := srtT ((tal (winL r w)).map (·.1))) (g := DT.str) (kf := Sum.inr) (vf := fun k => .int ((cget (tal (winL r w)) k).getD 0)) (own := [("window", 3)]) (t := .nm 3) (by walk_at "tgt") (by walk_at "blk") (by decide) (tvi_lst (tv_callB (by rfl) (by walk_at "as") (by walk_at "bt") (by walk_at "va") (pf_sortedDT (diT_c su_same) (cD_keys _)))) hn (fun _ _ => rfl)
        (fun k hk => ⟨by walk_at "v", by
          obtain ⟨i, hi⟩ := mem k hk
          exact tv_dix (k := .inr k) (by walk_at "v") (by walk_at "v") (diT_c su_same) (by rw [cD_get, hi]; rfl)⟩) nd) (congrArg DT.dct e1)).to ?_)))
      rw [sd_su hp]
      exact q
end
end Y

/-! ### tallies in order; the table of a row -/
namespace Y
open PySem PySem.Spec L2 SX Z
theorem cget_iff {t : CS} (h : (t.map (·.1)).Nodup) {k : List Nat} {i : Int} : cget t k = some i ↔ (k, i) ∈ t := by
  constructor
  · intro e
    induction t with
    | nil => cases e
    | cons p t ih =>
      rw [cget_cons] at e
      rw [List.map_cons, List.nodup_cons] at h
      by_cases c : p.1 = k
      · rw [if_pos c] at e
        rw [← Option.some.inj e, ← c]
        exact List.mem_cons_self
      · rw [if_neg c] at e
        exact List.mem_cons_of_mem _ (ih h.2 e)
  · intro m
    exact cget_mem h _ m
theorem cget_perm {t u : CS} (p : t.Perm u) (h : (t.map (·.1)).Nodup) (k : List Nat) : cget t k = cget u k := by
  have h2 : (u.map (·.1)).Nodup := (p.map (·.1)).nodup_iff.mp h
  cases e : cget t k with
  | some i => exact ((cget_iff h2).mpr (p.mem_iff.mp ((cget_iff h).mp e))).symm
  | none =>
    cases e2 : cget u k with
    | none => rfl
    | some j =>
      rw [(cget_iff h).mpr (p.mem_iff.mpr ((cget_iff h2).mp e2))] at e
      cases e
theorem srtC_perm {t : CS} (h : (t.map (·.1)).Nodup) : (srtC t).Perm t := by
  have a : ((t.map (·.1)).map fun k => (k, (cget t k).getD 0)) = t := by
    rw [List.map_map]
    conv => rhs; rw [← List.map_id t]
    refine List.map_congr_left fun p hp => ?_
    show (p.1, (cget t p.1).getD 0) = p
    rw [cget_mem h p hp]
    rfl
  have b := (srtT_perm (t.map (·.1))).map fun k => (k, (cget t k).getD 0)
  rw [a] at b
  exact b
theorem srtC_same {t u : CS} (p : t.Perm u) (h : (t.map (·.1)).Nodup) : srtC t = srtC u := by
  unfold srtC
  rw [srtT_same (p.map (·.1))]
  exact List.map_congr_left fun k _ => by rw [cget_perm p h k]
theorem csum_perm {t u : CS} (p : t.Perm u) : csum t = csum u := by
  unfold csum
  induction p with
  | nil => rfl
  | cons x _ ih => simp only [List.map_cons, List.sum_cons, ih]
  | swap x y l => simp only [List.map_cons, List.sum_cons]; omega
  | trans _ _ i1 i2 => exact i1.trans i2
theorem CSok.perm {w : Nat} {t u : CS} (p : t.Perm u) (h : CSok w t) : CSok w u := ⟨(p.map (·.1)).nodup_iff.mp h.nd, fun x hx => h.key x (p.mem_iff.mpr hx), fun x hx => h.pos x (p.mem_iff.mpr hx), by rw [← csum_perm p]; exact h.sum⟩
theorem CSok.srt {w : Nat} {t : CS} (h : CSok w t) : CSok w (srtC t) := h.perm (srtC_perm h.nd).symm
theorem srtC_srtC {t : CS} (h : (t.map (·.1)).Nodup) : srtC (srtC t) = srtC t := (srtC_same (srtC_perm h).symm h).symm
theorem rep_sum (k : List Nat) (v : Int) : ∀ t : CS, (t.map (·.1)).Nodup → (t.any fun p => decide (p.1 = k)) = true → csum (t.map fun p => if p.1 = k then (p.1, v) else p) = csum t - (cget t k).getD 0 + v
  | [], _, h => by cases h
  | p :: t, nd, h => by
    rw [List.map_cons, List.nodup_cons] at nd
    rw [cget_cons]
    by_cases c : p.1 = k
    · have e : (t.map fun p => if p.1 = k then (p.1, v) else p) = t := by
        conv => rhs; rw [← List.map_id t]
        refine List.map_congr_left fun q hq => ?_
        rw [if_neg (fun z : q.1 = k => nd.1 (by rw [c, ← z]; exact List.mem_map.mpr ⟨q, hq, rfl⟩))]
        rfl
      rw [List.map_cons, e, if_pos c, if_pos c]
      simp only [csum, List.map_cons, List.sum_cons, Option.getD_some]
      omega
    · rw [List.any_cons, decide_eq_false c, Bool.false_or] at h
      have ih := rep_sum k v t nd.2 h
      rw [List.map_cons, if_neg c, if_neg c]
      simp only [csum, List.map_cons, List.sum_cons] at ih ⊢
      omega
theorem csum_add {t : CS} {k : List Nat} (h : (t.map (·.1)).Nodup) : csum (addC t k) = csum t + 1 := by
  unfold addC
  cases e : t.any fun p => decide (p.1 = k) with
  | true =>
    rw [if_pos rfl, rep_sum k _ t h e]
    omega
  | false => simp [csum]
theorem addC_pos {t : CS} {k : List Nat} (h : ∀ p ∈ t, 1 ≤ p.2) : ∀ p ∈ addC t k, 1 ≤ p.2 := by
  have g : 0 ≤ (cget t k).getD 0 := by
    cases e : cget t k with
    | none => exact Int.le_refl _
    | some i =>
      have : ∀ u : CS, (∀ p ∈ u, 1 ≤ p.2) → cget u k = some i → 1 ≤ i := by
        intro u
        induction u with
        | nil => intro _ e; cases e
        | cons p u ih =>
          intro hu e
          rw [cget_cons] at e
          by_cases c : p.1 = k
          · rw [if_pos c] at e
            rw [← Option.some.inj e]
            exact hu p List.mem_cons_self
          · rw [if_neg c] at e
            exact ih (fun q hq => hu q (List.mem_cons_of_mem _ hq)) e
      have := this t h e
      show 0 ≤ i
      omega
  intro p hp
  unfold addC at hp
  split at hp
  · obtain ⟨q, hq, rfl⟩ := List.mem_map.mp hp
    split
    · show 1 ≤ (cget t k).getD 0 + 1
      omega
    · exact h q hq
  · rcases List.mem_append.mp hp with hp | hp
    · exact h p hp
    · rw [List.mem_singleton.mp hp]
      exact Int.le_refl _
theorem tal_all (l : List (List Nat)) : csum (tal l) = l.length ∧ (∀ p ∈ tal l, 1 ≤ p.2) ∧ ∀ x, x ∈ (tal l).map (·.1) ↔ x ∈ l := by
  have : ∀ (l : List (List Nat)) (t : CS), (t.map (·.1)).Nodup → (∀ p ∈ t, 1 ≤ p.2) → csum (l.foldl addC t) = csum t + l.length ∧ (∀ p ∈ l.foldl addC t, 1 ≤ p.2) ∧ ∀ x, x ∈ (l.foldl addC t).map (·.1) ↔ x ∈ t.map (·.1) ∨ x ∈ l := by
    intro l
    induction l with
    | nil => intro t _ h; exact ⟨by simp, h, fun x => by simp⟩
    | cons k l ih =>
      intro t nd h
      obtain ⟨a, b, c⟩ := ih (addC t k) (addC_nd nd) (addC_pos h)
      rw [List.foldl_cons]
      refine ⟨by rw [a, csum_add nd, List.length_cons]; omega, b, fun x => ?_⟩
      rw [c x, addC_keys, List.mem_cons]
      exact ⟨fun z => by rcases z with (z | z) | z <;> simp [z], fun z => by rcases z with z | z | z <;> simp [z]⟩
  obtain ⟨a, b, c⟩ := this l [] List.nodup_nil (fun p hp => nomatch hp)
  exact ⟨by unfold tal; rw [a]; simp [csum], b, fun x => by unfold tal; rw [c x]; simp⟩
theorem win_mem {r : List Nat} {w : Nat} {k : List Nat} (h : k ∈ winL r w) (hr : r.all isLet = true) : k.length = w ∧ k.all isLet = true := by
  obtain ⟨i, hi, rfl⟩ := List.mem_map.mp h
  rw [List.mem_range] at hi
  refine ⟨by rw [List.length_take, List.length_drop]; omega, ?_⟩
  rw [List.all_eq_true] at hr ⊢
  exact fun x hx => hr x (List.mem_of_mem_drop (List.mem_of_mem_take hx))
theorem tal_ok {r : List Nat} {w : Nat} (h : rowOk r) (h1 : 1 ≤ w) (h2 : w ≤ 201) : CSok w (tal (winL r w)) := by
  obtain ⟨a, b, c⟩ := tal_all (winL r w)
  refine ⟨tal_nd _, fun p hp => win_mem ((c p.1).mp (List.mem_map.mpr ⟨p, hp, rfl⟩)) h.2.2, b, ?_⟩
  rw [a, win_len]
  have := h.2.1
  omega
def spChkRow : TSpec := fun ds σ Q E => ∃ r, ds = [.str r] ∧ rowOk r ∧ Q .non σ
def spChkWidth : TSpec := fun ds σ Q E => ∃ (r : List Nat) (w : Nat), ds = [.str r, .int (w : Int)] ∧ 1 ≤ w ∧ w ≤ 12 ∧ w ≤ r.length ∧ r.length ≤ 1000000 ∧ Q .non σ
def spOf (C : Addr) : TSpec := fun ds σ Q E => ∃ (r : List Nat) (w : Nat), ds = [.ref C, .str r, .int (w : Int)] ∧ rowOk r ∧ 1 ≤ w ∧ w ≤ 12 ∧ w ≤ r.length ∧ Q (tabT C w (srtC (tal (winL r w)))) σ
section
variable {P : Program} {w : World} {F : PySem.W.Frag} {mg : Str → Option Value} {base : Heap}
set_option maxHeartbeats 200000 in
theorem ok_check_row (L : Dt P w F mg base "is_row" ["value"] 2 spRow) (Fn : DfN F mg "check_row" ["value"] s_check_row) : Dt P w F mg base "check_row" ["value"] 3 spChkRow := by
  refine dt_ok Fn sc_check_row (fun ds σ Q E h => ?_) (fun ds σ Q E Wx h => ?_)
  · obtain ⟨r, rfl, _⟩ := h
    rfl
  · obtain ⟨r, rfl, ok, q⟩ := h
    exact tk_ifF (TB.cast (tb_not (tb_val (v_is_row L (by walk_at "k") (by rfl) (by walk_at "va") rfl (fun s e => by cases e; have := ok.2.1; omega)))) (by rw [isRowV_ok ok]; rfl)) (tk_nil (tk_nil q))
set_option maxHeartbeats 200000 in
theorem ok_check_width (L : Dt P w F mg base "is_integer" ["value", "low", "high"] 1 spInt) (g : GlT F mg "WIDEST" (.int 12)) (b1 : mg "min" = none) (b2 : mg "len" = none) (Fn : DfN F mg "check_width" ["row", "value"] s_check_width) : Dt P w F mg base "check_width" ["row", "value"] 2 spChkWidth := by
  refine dt_ok Fn sc_check_width (fun ds σ Q E h => ?_) (fun ds σ Q E Wx h => ?_)
  · obtain ⟨r, w, rfl, _⟩ := h
    rfl
  · obtain ⟨r, w, rfl, w1, w2, w3, hr, q⟩ := h
    exact tk_ifF (TB.cast (tb_not (tb_val (tv_own (d := .bl true) L (by walk_at "k") (by rfl) (by walk_at "va") (fun q => ⟨(w : Int), 1, some (min 12 (r.length : Int)), rfl, by
      have a1 : (1 : Int) ≤ w := by omega
      have a2 : (w : Int) ≤ min 12 (r.length : Int) := by omega
      simp only [decide_eq_true a1, decide_eq_true a2]
      exact q⟩)))) (by rfl)) (tk_nil (tk_nil q))
set_option maxHeartbeats 400000 in
theorem ok_tab_of {C f : Addr} {fd : FuncData} {qual : Str} (L1 : Dt P w F mg base "check_row" ["value"] 3 spChkRow) (L2 : Dt P w F mg base "check_width" ["row", "value"] 2 spChkWidth) (L3 : Dt P w F mg base "counts_in" ["row", "width"] 2 spCountsIn)
    (M : DtI P w F mg base C ["self", "width", "counts"] 3 (spInit C)) (Fn : Fun F "of" qual s_Table_of f fd) : FnG P w F mg base 5 f fd ["cls", "row", "width"] (spT F (spOf C)) := by
  refine fnT_ok Fn sc_Table_of (fun ds σ Q E h => ?_) (fun ds σ Q E Wx h => ?_)
  · obtain ⟨r, w, rfl, _⟩ := h
    rfl
  · obtain ⟨r, w, rfl, ok, w1, w2, w3, q⟩ := h
    have hr := ok.2.1
    have to := tal_ok ok w1 (by omega : w ≤ 201)
    refine tk_cons (ts_expr (te_own L1 (by walk_at "k") (by rfl) ((by walk_at "va" : TVA _ _ _ _ [.str r]).to ⟨r, rfl, ok, ?_⟩)))
    refine tk_cons (ts_expr (te_own L2 (by walk_at "k") (by rfl) ((by walk_at "va" : TVA _ _ _ _ [.str r, .int (w : Int)]).to ⟨r, w, rfl, w1, w2, w3, by omega, ?_⟩)))
    refine tk_cons (ts_ret (te_frz (te_makeL M (by walk_at "k") (by rfl) (by rfl) ((tva_cons (by walk_at "v" : TV _ _ _ _ (.int (w : Int))) (tva_cons (tv_own (d := .dct (cD (srtC (tal (winL r w))))) L3 (by walk_at "k") (by rfl) (by walk_at "va") (fun q => ⟨r, w, rfl, by omega, by omega, q⟩)) tva_nil)).to fun z hz => ⟨z, w, srtC (tal (winL r w)), rfl, su_same, w1, w2, to.srt, ?_⟩))))
    rw [su_su, srtC_srtC to.nd]
    exact ⟨rfl, z, _, rfl, su_same, by rw [sd_su hz]; exact q⟩
end
end Y

/-! ### the reel of draws -/
namespace Y
open PySem PySem.Spec L2 SX Z
/-- what stands in the reel -/
def reelOk (N : Nat) (xs : List DT) : Prop := ∃ (gs es : List Int) (n s : Int), xs = [.lst (gs.map DT.int), .lst (es.map DT.int), .int n, .int s] ∧ (∀ g ∈ gs, 0 ≤ g) ∧ gs.length ≤ 64 ∧ 1 ≤ es.length ∧ es.length ≤ 64 ∧ (∀ e ∈ es, 0 ≤ e ∧ e < 1000033) ∧ 0 ≤ n ∧ n ≤ N ∧ 0 ≤ s ∧ s < 2 ^ 129
theorem reel_le {N M : Nat} {xs : List DT} (h : reelOk N xs) (l : N ≤ M) : reelOk M xs := by
  obtain ⟨gs, es, n, s, h1, h2, h3, h4, h5, h6, h7, h8, h9⟩ := h
  exact ⟨gs, es, n, s, h1, h2, h3, h4, h5, h6, h7, by omega, h9⟩
def spReel : TSpec := fun ds σ Q E => ∃ ns : List Int, ds = [.seq (ns.map DT.int)] ∧ ns.length ≤ 63 ∧ ∀ p xs, σ p = none → reelOk 0 xs → Q (.ref p) (su σ p (.lst xs))
def spDraw : TSpec := fun ds σ Q E => ∃ p m N xs, ds = [.ref p, .int m] ∧ σ p = some (.lst xs) ∧ reelOk N xs ∧ N < 2 ^ 60 ∧ 1 ≤ m ∧ m < 2 ^ 200 ∧ ∀ d xs', 0 ≤ d → d < m → reelOk (N + 1) xs' → Q (.int d) (su σ p (.lst xs'))
def spWord : TSpec := fun ds σ Q E => ∃ (p : Addr) (lo hi N : Nat) (xs : List DT), ds = [.ref p, .int (lo : Int), .int (hi : Int)] ∧ σ p = some (.lst xs) ∧ reelOk N xs ∧ N < 2 ^ 59 ∧ 1 ≤ lo ∧ lo ≤ hi ∧ hi ≤ 200 ∧
  ∀ (l : List Nat) xs', lo ≤ l.length → l.length ≤ hi → l.all isLet = true → reelOk (N + 1000) xs' → Q (.str l) (su σ p (.lst xs'))
section
variable {P : Program} {w : World} {F : PySem.W.Frag} {mg : Str → Option Value} {base : Heap}
theorem ok_reel (Fn : DfN F mg "_law_reel" ["_law_script"] s_law_reel) : Dt P w F mg base "_law_reel" ["_law_script"] 1 spReel := by
  refine dt_ok Fn sc_law_reel (fun ds σ Q E h => ?_) (fun ds σ Q E Wx h => ?_)
  · obtain ⟨ns, rfl, _⟩ := h
    rfl
  · obtain ⟨ns, rfl, hl, q⟩ := h
    refine tk_setV (i := 1) (by walk_at "sto") (by walk_at "v") ?_
    have cutI : cutT (ns.map DT.int) none (some (61 : Int)) = (ns.take 61).map DT.int := (Y.cut_to (j := 61) (y := 61) rfl).trans List.map_take.symm
    refine tk_cons (ts_for (t := .nm 2) (by walk_at "tgt") ((tvi_lst (TV.castL (by walk_at "v") cutI)).to ?_))
    refine ⟨fun i ρ1 σ2 => σ2 = σ ∧ ∃ (s : Int) (o : Option DT), 0 ≤ s ∧ s < 2 ^ 129 ∧ ρ1 = [some (.seq (ns.map DT.int)), some (.int s), o, none], ⟨rfl, _, none, by decide, by decide, rfl⟩, ?_, ?_⟩
    · rintro i d ρ1 σ2 hd ⟨rfl, s, o, s0, s1, rfl⟩
      rw [List.getElem?_map] at hd
      obtain ⟨z, hz, rfl⟩ := Option.map_eq_some_iff.mp hd
      refine ⟨_, rfl, ?_⟩
      have m1 : CMulW s s := mulW (m := 129) (k := 129) (by omega) (by omega) (by decide)
      refine tk_setV (i := 1) (by walk_at "sto") (by walk_at "v") (tk_nil ⟨rfl, _, some (.int z), Int.emod_nonneg _ (by decide), Int.lt_of_lt_of_le (Int.emod_lt_of_pos _ (by decide)) (by decide), rfl⟩)
    · rintro ρ1 σ2 ⟨rfl, s, o, s0, s1, rfl⟩
      refine tk_setLcV (α := Int) (i := 3) (own := [("_law_cell", 2)]) (t := .nm 2) (by rfl) (by rfl) (by rfl) (by decide +kernel) (by exact Nat.le_of_ble_eq_true rfl) (by walk_at "tgt") (by walk_at "blk") (by decide) (tvi_lst (TV.castL (by walk_at "v") cutI)) (by simp; omega) (fun _ _ => rfl)
        (tt := fun z => decide (10 ^ (18 : Int).toNat ≤ z)) (f := fun z => .int (z - 10 ^ (18 : Int).toNat)) (fun z _ => ⟨by walk_at "t", fun _ => by walk_at "v"⟩) ?_
      refine tk_cons (ts_ret (te_lstC ?_))
      refine ta_v (by walk_at "v") (ta_v (tv_bin (tv_lcM (own := [("_law_cell", 2)]) (t := .nm 2) (by walk_at "tgt") (by walk_at "blk") (by decide) (tvi_lst (TV.castL (by walk_at "v") cutI)) (by simp; omega) (fun _ _ => rfl) (f := fun z : Int => .int (z % 1000033)) (fun z _ => by walk_at "v")) (by walk_at "v") (po_cat lsX_l lsX_l (by simp; omega))) (ta_v (by walk_at "v") (ta_v (by walk_at "v") (ta_nil ⟨by exact Nat.le_of_ble_eq_true rfl, fun p hp => q p _ hp ?_⟩))))
      refine ⟨((ns.take 61).filter fun z => decide (10 ^ (18 : Int).toNat ≤ z)).map fun z => z - 10 ^ (18 : Int).toNat, (ns.take 61).map (fun z => z % 1000033) ++ [67], 0, s, ?_, ?_, ?_, ?_, ?_, ?_, by omega, by omega, s0, s1⟩
      · simp [List.map_map, Function.comp_def]
      · intro g hg
        obtain ⟨z, hz, rfl⟩ := List.mem_map.mp hg
        have := of_decide_eq_true (List.mem_filter.mp hz).2
        omega
      · rw [List.length_map]
        exact Nat.le_trans (List.length_filter_le _ _) (by rw [List.length_take]; omega)
      · simp
      · simp; omega
      · intro e he
        rcases List.mem_append.mp he with h | h
        · obtain ⟨z, _, rfl⟩ := List.mem_map.mp h
          exact ⟨Int.emod_nonneg _ (by decide), Int.emod_lt_of_pos _ (by decide)⟩
        · rw [List.mem_singleton.mp h]; decide
theorem ok_draw (sm : ∃ ob, base.get? sysModules = some ob) (Fn : DfN F mg "_law_draw" ["_law_reel_here", "_law_many"] s_law_draw) (b1 : mg "int" = none) (b2 : mg "len" = none) : Dt P w F mg base "_law_draw" ["_law_reel_here", "_law_many"] 1 spDraw := by
  refine dt_ok Fn sc_law_draw (fun ds σ Q E h => ?_) (fun ds σ Q E Wx h => ?_)
  · obtain ⟨p, m, N, xs, rfl, _⟩ := h
    rfl
  · obtain ⟨p, m, N, _, rfl, hσ, ⟨gs, es, n, s, rfl, h1, h2, h3, h4, h5, h6, h7, h8, h9⟩, hN, m1, m2, q⟩ := h
    have cm : CDivW 0 m := ⟨by omega, Nat.lt_trans ((Nat.log2_lt (by omega)).mpr (show m.natAbs < 2 ^ 200 by omega)) (by decide)⟩
    refine tk_ifG (tb_cmp (by walk_at "v") (by walk_at "v") (po_neNil sm (sh_ints gs)) (by rfl)) (fun hv => ?_) (fun hv => ?_)
    · cases gs with
      | nil => cases hv
      | cons g gs =>
        have g0 := h1 g List.mem_cons_self
        refine tk_setV (i := 2) (by walk_at "sto") (tv_sub (by walk_at "v") (by walk_at "v") (pi_lst (xs := (g :: gs).map DT.int) (i := 0) lsT_l (d := .int g) (Z.at_nat (j := 0) rfl rfl))) ?_
        have cm2 : CDivW g m := cm
        have hb : ∀ b : Bool, 0 ≤ (if b = true then (1 : Int) else 0) ∧ (if b = true then (1 : Int) else 0) ≤ 1 := fun b => by cases b <;> decide
        have e1 : (List.map DT.int (g :: gs)).length = gs.length + 1 := by simp
        have h2 : gs.length + 1 ≤ 64 := h2
        refine tk_cons (ts_setItem ((tv_bin (x := .lst (List.replicate (if decide (m ≤ g) = true then (1 : Int) else 0).toNat [DT.int (g / m)]).flatten) (tv_bin (by walk_at "v") (by walk_at "v") (po_rep lsX_l (by have := hb (decide (m ≤ g)); omega) (by have := hb (decide (m ≤ g)); omega) (by by_cases z : m ≤ g <;> simp [z])))
          (tv_slice (by walk_at "v") (by walk_at "vo") (by walk_at "vo") (pl_lst lsT_l)) (po_cat lsX_l lsX_l (by by_cases z : m ≤ g <;> simp [z, cutT] <;> omega))).to ((by walk_at "v" : TV _ _ _ _ _).to (tv_int.to ⟨p, _, 0, 0, rfl, rfl, hσ, rfl, ?_⟩))))
        refine tk_ret (by walk_at "v") (q _ _ (Int.emod_nonneg _ (by omega)) (Int.emod_lt_of_pos _ (by omega)) ⟨(if m ≤ g then [g / m] else []) ++ gs, es, n, s, ?_, ?_, ?_, h3, h4, h5, h6, by omega, h8, h9⟩)
        · have e2 : cutT (List.map DT.int (g :: gs)) (some 1) none = gs.map DT.int := (Y.cut_from (i := 1) rfl).trans rfl
          rw [e2]
          by_cases z : m ≤ g <;> simp [z]
        · intro x hx
          rcases List.mem_append.mp hx with h | h
          · by_cases z : m ≤ g
            · rw [if_pos z] at h
              rw [List.mem_singleton.mp h]
              exact Int.ediv_nonneg g0 (by omega)
            · rw [if_neg z] at h
              cases h
          · exact h1 x (List.mem_cons_of_mem _ h)
        · by_cases z : m ≤ g <;> simp [z] <;> omega
    · cases gs with
      | cons g gs => cases hv
      | nil =>
        refine tk_cons (ts_setItem ((by walk_at "v" : TV _ _ _ _ (.int (n + 1))).to ((by walk_at "v" : TV _ _ _ _ _).to (tv_int.to ⟨p, _, 2, 2, rfl, rfl, hσ, rfl, ?_⟩))))
        have he : ((n + 1) % (es.length : Int)).toNat < es.length := by
          have a := Int.emod_nonneg (n + 1) (b := (es.length : Int)) (by omega)
          have b := Int.emod_lt_of_pos (n + 1) (b := (es.length : Int)) (by omega)
          omega
        obtain ⟨e, hee⟩ : ∃ e, es[((n + 1) % (es.length : Int)).toNat]? = some e := ⟨_, List.getElem?_eq_getElem he⟩
        have ae : atI (es.map DT.int) ((n + 1) % ((es.map DT.int).length : Int)) = some (.int e) := by
          refine Z.at_nat (j := ((n + 1) % (es.length : Int)).toNat) ?_ ?_
          · rw [List.length_map]
            exact (Int.toNat_of_nonneg (Int.emod_nonneg _ (by omega))).symm
          · rw [List.getElem?_map, hee]
            rfl
        obtain ⟨e0, e1⟩ := h5 e (List.mem_of_getElem? hee)
        have pos : (0 : Int) < ((es.map DT.int).length : Int) := by rw [List.length_map]; omega
        refine tk_setV (i := 3) (by walk_at "sto") (by walk_at "v") ?_
        have c1 : CMulW s s := mulW (m := 129) (k := 129) (by omega) (by omega) (by decide)
        have c2 : CMulW (e + 13) 86028121 := mulW (m := 21) (k := 27) (by omega) (by decide) (by decide)
        have c3 : CMulW (n + 1) 999961 := mulW (m := 61) (k := 20) (by omega) (by decide) (by decide)
        refine tk_setV (i := 4) (by walk_at "sto") (by walk_at "v") ?_
        generalize s * s + (e + 13) * 86028121 + (n + 1) * 999961 = s'
        have t0 := Int.emod_nonneg s' (show (2 : Int) ^ (64 : Int).toNat * 2 ^ (63 : Int).toNat - 1 ≠ 0 by decide)
        have t1 := Int.emod_lt_of_pos s' (show (0 : Int) < (2 : Int) ^ (64 : Int).toNat * 2 ^ (63 : Int).toNat - 1 by decide)
        refine tk_cons (ts_setItem ((by walk_at "v" : TV _ _ _ _ (.int (s' % (2 ^ (64 : Int).toNat * 2 ^ (63 : Int).toNat - 1)))).to ((by walk_at "v" : TV _ _ _ _ _).to (tv_int.to ⟨p, _, 3, 3, rfl, rfl, su_same, rfl, ?_⟩))))
        refine tk_ret (by walk_at "v") ?_
        rw [su_su]
        exact q _ _ (Int.emod_nonneg _ (by omega)) (Int.emod_lt_of_pos _ (by omega)) ⟨[], es, n + 1, _, rfl, (fun _ z => nomatch z), by decide, h3, h4, h5, by omega, by omega, t0, Int.lt_trans t1 (by decide)⟩
end
end Y

/-! ### drawn words -/
namespace Y
open PySem PySem.Spec L2 SX Z
section
variable {c : Ct} {ρ : EnvT} {σ : Sg} {Q : DT → Sg → Prop} {E : TX} {p : Addr} {N : Nat} {xs : List DT}
/-- a draw from the reel -/
theorem te_draw {m : Int} {a : Expr} {es : List Expr} {pos p1 : Pos} (L : DtQ c.hp c.P c.w c.K c.mg c.base "_law_draw" ["_law_reel_here", "_law_many"] 1 spDraw) (hk : 1 ≤ c.k) (hg : GlS c "_law_draw") (ha : TVA c (a :: es) ρ (su σ p (.lst xs)) [.ref p, .int m]) (ok : reelOk N xs) (hN : N < 2 ^ 60) (h1 : 1 ≤ m) (h2 : m < 2 ^ 200)
    (q : ∀ (d : Int) xs', 0 ≤ d → d < m → reelOk (N + 1) xs' → Q (.int d) (su σ p (.lst xs'))) (he : ∀ env, starEach (a :: es) env = (false, eval a env) :: starEach es env := by intro _; rfl) (hpl : ∀ pos env, (backTo pos (starEach es env)).any (·.1) = false := by intro _ _; rfl) :
    TE c (.Call (.Name "_law_draw" p1) (a :: es) [] pos) ρ (su σ p (.lst xs)) Q E :=
  te_own L hk hg (ha.to ⟨p, m, N, xs, rfl, su_same, ok, hN, h1, h2, fun d xs' d0 d1 ok' => by rw [su_su]; exact q d xs' d0 d1 ok'⟩) (by decide) he hpl
end
theorem joinL_nil : ∀ ps : List (List Nat), TL.joinL [] ps = ps.flatten
  | [] => rfl
  | [p] => by simp [TL.joinL]
  | p :: q :: r => by
    rw [TL.joinL, joinL_nil (q :: r)]
    simp
theorem join_ones (l : List Nat) : TL.joinL (sOf "") (l.map fun k => [k]) = l := by
  rw [show sOf "" = [] from rfl, joinL_nil]
  induction l with
  | nil => rfl
  | cons a l ih => rw [List.map_cons, List.flatten_cons, ih]; rfl
/-- the text of drawn signs -/
theorem pm_ones {c : Ct} {σ : Sg} (l : List Nat) (h : l.length ≤ 1000000) : POM c "str.join" (.str (sOf "")) [.lst (l.map fun k => DT.str [k])] σ (.str l) := by
  have := pm_join (c := c) (σ := σ) (a := sOf "") (parts := l.map fun k => [k]) (x := .lst (l.map fun k => DT.str [k])) (by rw [List.map_map]; exact lsT_l) (by
    rw [show sOf "" = [] from rfl, List.map_map]
    have : ∀ l : List Nat, (l.map ((fun x : List Nat => x.length) ∘ fun k => [k])).sum = l.length := fun l => by
      induction l with
      | nil => rfl
      | cons a l ih => rw [List.map_cons, List.sum_cons, ih, List.length_cons]; simp only [Function.comp, List.length_singleton]; omega
    rw [this]
    simp
    omega)
  rwa [join_ones] at this
theorem repl_len (n : Nat) (l : List Nat) : (List.replicate n l).flatten.length = n * l.length := by simp
theorem repl_all (n : Nat) (l : List Nat) (f : Nat → Bool) (h : l.all f = true) : (List.replicate n l).flatten.all f = true := by
  rw [List.all_eq_true] at h ⊢
  intro k hk
  obtain ⟨z, hz, hk⟩ := List.mem_flatten.mp hk
  rw [(List.mem_replicate.mp hz).2] at hk
  exact h k hk
theorem take_rep {a : List Nat} {n : Nat} (h : 1 ≤ a.length) : ((List.replicate n a).flatten.take n).length = n := by
  rw [List.length_take, List.length_flatten]
  simp only [List.map_replicate, List.sum_replicate_nat]
  have : n ≤ n * a.length := Nat.le_mul_of_pos_right n h
  omega
section
variable {P : Program} {w : World} {F : PySem.W.Frag} {mg : Str → Option Value} {base : Heap}
theorem ok_word (L : Dt P w F mg base "_law_draw" ["_law_reel_here", "_law_many"] 1 spDraw) (Fn : DfN F mg "_law_word" ["_law_reel_here", "_law_low", "_law_high"] s_law_word) (b1 : mg "range" = none) (b2 : mg "len" = none) : Dt P w F mg base "_law_word" ["_law_reel_here", "_law_low", "_law_high"] 2 spWord := by
  refine dt_ok Fn sc_law_word (fun ds σ Q E h => ?_) (fun ds σ Q E Wx h => ?_)
  · obtain ⟨p, lo, hi, N, xs, rfl, _⟩ := h
    rfl
  · obtain ⟨p, lo, hi, N, xs, rfl, hσ, ok, hN, l1, l2, l3, q⟩ := h
    rw [← su_self hσ]
    have q : ∀ (l : List Nat) xs', lo ≤ l.length → l.length ≤ hi → l.all isLet = true → reelOk (N + 1000) xs' → Q (.str l) (su σ p (.lst xs')) := q
    refine tk_cons (ts_par (i := 3) (j := 4) (by rfl) (by rfl) (by decide) (by rfl) (by rfl) (ta_cons (te_bin (te_v (by walk_at "v") (te_draw L (by walk_at "k") (by rfl) (by walk_at "va") ok (by omega) (by omega) (by omega) fun d xs1 d0 d1 ok1 => ⟨_, po_addI, ?_⟩)))) (fun env hb hx hy => sw_two hb hx hy rfl rfl rfl rfl rfl))
    refine ta_cons (te_draw L (by walk_at "k") (by rfl) (by walk_at "va") ok1 (by omega) (by omega) (by omega) fun way xs2 w0 w1 ok2 => ta_nil ⟨_, _, rfl, ?_⟩)
    obtain ⟨n, hn, n1, n2⟩ : ∃ n : Nat, (lo : Int) + d = n ∧ lo ≤ n ∧ n ≤ hi := ⟨((lo : Int) + d).toNat, by omega, by omega, by omega⟩
    rw [hn]
    obtain ⟨pl, hpl, p1, p2, p3, p4⟩ : ∃ pl, atI [DT.str (sOf "ab"), DT.str (sOf "abc"), DT.str (sOf "xyzw"), DT.str (sOf "abcdefghijklmnopqrstuvwxyz"), DT.str (sOf "ab"), DT.str (sOf "z")] way = some (.str pl) ∧ pl.all isLet = true ∧ 1 ≤ pl.length ∧ pl.length ≤ 26 ∧ (way = 4 → 2 ≤ pl.length) := by
      have : way = 0 ∨ way = 1 ∨ way = 2 ∨ way = 3 ∨ way = 4 ∨ way = 5 := by omega
      rcases this with rfl | rfl | rfl | rfl | rfl | rfl
      · exact ⟨_, rfl, by decide +kernel, by decide +kernel, by decide +kernel, by decide⟩
      · exact ⟨_, rfl, by decide +kernel, by decide +kernel, by decide +kernel, by decide⟩
      · exact ⟨_, rfl, by decide +kernel, by decide +kernel, by decide +kernel, by decide⟩
      · exact ⟨_, rfl, by decide +kernel, by decide +kernel, by decide +kernel, by decide⟩
      · exact ⟨_, rfl, by decide +kernel, by decide +kernel, by decide +kernel, fun _ => by decide +kernel⟩
      · exact ⟨_, rfl, by decide +kernel, by decide +kernel, by decide +kernel, by decide⟩
    refine tk_setV (i := 5) (by walk_at "sto") (by walk_at "v") ?_
    have at_pl : ∀ d : Int, 0 ≤ d → d < pl.length → ∃ k, atI pl d = some k ∧ isLet k = true := fun d d0 d1 => by
      have hlt : d.toNat < pl.length := by omega
      refine ⟨pl[d.toNat], Z.at_nat (j := d.toNat) (by omega) (List.getElem?_eq_getElem hlt), ?_⟩
      rw [List.all_eq_true] at p1
      exact p1 _ (List.getElem_mem hlt)
    refine tk_ifG (by walk_at "t") (fun hw => ?_) (fun hw => ?_)
    · have p4 := p4 (of_decide_eq_true hw)
      refine tk_set (i := 6) (by walk_at "sto") (te_meth PySem.F.plainAttrs_str PySem.F.slot_str_join rfl (te_v (by walk_at "v") ⟨ty_str, ta_cons (te_lcR (α := Nat) (f := fun k => .str [k]) (Pa := fun k => isLet k = true) (R := fun i σ2 => ∃ xs', σ2 = su σ p (.lst xs') ∧ reelOk (N + 3 + i) xs') (own := [("_law_turn", 9)]) (t := .nm 9) (by walk_at "tgt") (by walk_at "blk") (by decide)
        (ti_range1 (by rfl) (by walk_at "as") (te_bin (te_v (by walk_at "v") (te_draw L (by walk_at "k") (by rfl) (by walk_at "va") ok2 (by omega) (by decide) (by decide) fun d3 xs3 e0 e1 ok3 => ⟨_, po_addI, _, rfl, by omega, by simp; omega, ⟨xs3, rfl, ok3⟩, ?_, ?_⟩)))))⟩))
      · rintro i d4 σ2 hd ⟨xs', rfl, ok4⟩
        rw [List.getElem?_map] at hd
        obtain ⟨j, hj, rfl⟩ := Option.map_eq_some_iff.mp hd
        have hi : i < (1 + d3).toNat := by have := (List.getElem?_eq_some_iff.mp hj).1; simpa using this
        refine ⟨_, rfl, te_sub (te_v (by walk_at "v") (te_draw L (by walk_at "k") (by rfl) (by walk_at "va") ok4 (by omega) (by decide) (by decide) fun d5 xs5 f0 f1 ok5 => ?_))⟩
        obtain ⟨k, hk, lk⟩ := at_pl d5 f0 (by omega)
        exact ⟨_, pi_str (by omega) hk, k, rfl, lk, xs5, rfl, ok5⟩
      · rintro l σ2 hl hp ⟨xs', rfl, ok4⟩
        have hl : l.length = (1 + d3).toNat := by simpa using hl
        refine ta_nil ((pm_ones l (by omega)).to ?_)
        have ok5 := reel_le ok4 (M := N + 1000) (by simp; omega)
        have cc : (List.replicate n l).flatten.length = n * l.length := by simp
        have c1 : l.length * n ≤ 5 * 200 := Nat.mul_le_mul (by omega) (by omega)
        have c2 : n * l.length = l.length * n := Nat.mul_comm _ _
        refine tk_ret (TV.castS (tv_slice (tv_bin (by walk_at "v") (by walk_at "v") (po_mulS (by omega) (by omega) (by rw [Int.toNat_natCast]; omega))) (by walk_at "vo") (by walk_at "vo") (pl_str (by rw [Int.toNat_natCast]; omega))) (Z.cut_to (j := n) rfl)) ?_
        rw [Int.toNat_natCast]
        have tl := take_rep (a := l) (n := n) (by omega)
        refine q _ _ (by omega) (by omega) ?_ ok5
        rw [List.all_eq_true]
        intro k hk
        obtain ⟨y, hy, hk⟩ := List.mem_flatten.mp (List.mem_of_mem_take hk)
        rw [(List.mem_replicate.mp hy).2] at hk
        exact hp k hk
    · refine tk_set (i := 7) (by walk_at "sto") (te_meth PySem.F.plainAttrs_str PySem.F.slot_str_join rfl (te_v (by walk_at "v") ⟨ty_str, ta_cons (te_lcR (α := Nat) (f := fun k => .str [k]) (Pa := fun k => isLet k = true) (R := fun i σ2 => ∃ xs', σ2 = su σ p (.lst xs') ∧ reelOk (N + 2 + i) xs') (own := [("_law_turn", 9)]) (t := .nm 9) (by walk_at "tgt") (by walk_at "blk") (by decide)
        (ti_range1 (by rfl) (by walk_at "as") (te_v (by walk_at "v") ⟨_, rfl, by omega, by simp; omega, ⟨xs2, rfl, ok2⟩, ?_, ?_⟩)))⟩))
      · rintro i d4 σ2 hd ⟨xs', rfl, ok4⟩
        rw [List.getElem?_map] at hd
        obtain ⟨j, hj, rfl⟩ := Option.map_eq_some_iff.mp hd
        have hi : i < n := by have := (List.getElem?_eq_some_iff.mp hj).1; simpa using this
        refine ⟨_, rfl, te_sub (te_v (by walk_at "v") (te_draw L (by walk_at "k") (by rfl) (by walk_at "va") ok4 (by omega) (by omega) (by omega) fun d5 xs5 f0 f1 ok5 => ?_))⟩
        obtain ⟨k, hk, lk⟩ := at_pl d5 f0 (by omega)
        exact ⟨_, pi_str (by omega) hk, k, rfl, lk, xs5, rfl, ok5⟩
      · rintro l σ2 hl hp ⟨xs', rfl, ok4⟩
        have hl : l.length = n := by simpa using hl
        refine ta_nil ((pm_ones l (by omega)).to ?_)
        have ok5 := reel_le ok4 (M := N + 500) (by simp; omega)
        have hla : l.all isLet = true := by rw [List.all_eq_true]; exact hp
        refine tk_set (i := 8) (by walk_at "sto") (te_draw L (by walk_at "k") (by rfl) (by walk_at "va") ok5 (by omega) (by omega) (by omega) fun at1 xs6 a0 a1 ok6 => ?_)
        obtain ⟨j, rfl⟩ : ∃ j : Nat, at1 = j := ⟨at1.toNat, by omega⟩
        have hj : j < l.length := by omega
        refine tk_ret (tv_if (x := .str (l.take j ++ sOf "a" ++ l.drop (j + 1))) (y := .str l) (by walk_at "t") (fun _ => TV.castS (tv_bin (tv_bin (TV.castS (by walk_at "v") (Z.cut_to (j := j) rfl)) (by walk_at "v") (po_addS (a := l.take j) (b := sOf "a") (by rw [List.length_take, show (sOf "a").length = 1 by decide +kernel]; omega))) (TV.castS (by walk_at "v") (Z.cut_from (i := j + 1) (by omega))) (po_addS (a := l.take j ++ sOf "a") (b := l.drop (j + 1)) (by rw [List.length_append, List.length_take, List.length_drop, show (sOf "a").length = 1 by decide +kernel]; omega))) rfl) (fun _ => by walk_at "v")) ?_
        split
        · refine q _ _ ?_ ?_ ?_ (reel_le ok6 (by omega))
          · rw [List.length_append, List.length_append, List.length_take, List.length_drop, show (sOf "a").length = 1 by decide +kernel]; omega
          · rw [List.length_append, List.length_append, List.length_take, List.length_drop, show (sOf "a").length = 1 by decide +kernel]; omega
          · rw [List.all_append, List.all_append, show (sOf "a").all isLet = true by decide +kernel, Bool.and_true]
            rw [List.all_eq_true] at hla
            rw [Bool.and_eq_true, List.all_eq_true, List.all_eq_true]
            exact ⟨fun k hk => hla k (List.mem_of_mem_take hk), fun k hk => hla k (List.mem_of_mem_drop hk)⟩
        · exact q _ _ (by omega) (by omega) hla (reel_le ok6 (by omega))
end
end Y

/-! ### the laws' own words about tables -/
namespace Y
open PySem PySem.Spec L2 SX Z
def spOrd : TSpec := fun ds σ Q E => ∃ t : CS, ds = [.dct (cD t)] ∧ (t.map (·.1)).Nodup ∧ t.length ≤ 1000 ∧ Q (.dct (cD (srtC t))) σ
section
variable {P : Program} {w : World} {F : PySem.W.Frag} {mg : Str → Option Value} {base : Heap}
set_option maxHeartbeats 200000 in
theorem ok_ordered (Fn : DfN F mg "_law_ordered" ["_law_counts_here"] s_law_ordered) (b1 : mg "sorted" = none) (b2 : mg "list" = none) (b3 : mg "dict" = none) : Dt P w F mg base "_law_ordered" ["_law_counts_here"] 1 spOrd := by
  refine dt_ok Fn sc_law_ordered (fun ds σ Q E h => ?_) (fun ds σ Q E Wx h => ?_)
  · obtain ⟨t, rfl, _⟩ := h
    rfl
  · obtain ⟨t, rfl, nd, hl, q⟩ := h
    have ek : ((cD t).map fun kv => dk kv.1) = (t.map (·.1)).map DT.str := by rw [cD_walk, List.map_map]; rfl
    have hn : (srtT (t.map (·.1))).length ≤ 1000000 := by
      have c := (srtT_perm (t.map (·.1))).length_eq
      rw [List.length_map] at c
      omega
    have e1 : (srtT (t.map (·.1))).map (fun k => DT.tup [.str k, .int ((cget t k).getD 0)]) = (cD (srtC t)).map fun p => .tup [dk p.1, p.2] := by
      unfold cD iD cT srtC
      simp [List.map_map, Function.comp_def, dk]
    have nds : ((cD (srtC t)).map (·.1)).Nodup := by
      rw [cD_keys]
      exact List.pairwise_map.mpr ((((srtC_perm nd).map (·.1)).nodup_iff.mpr nd).imp fun {a b} n e => n (Sum.inr.inj e))
    exact tk_ret (tv_dictP (by rfl) (by walk_at "as") (TV.castL (tv_lcM (α := List Nat) (l := srtT (t.map (·.1))) (g := DT.str) (f := fun k => .tup [.str k, .int ((cget t k).getD 0)]) (own := [("_law_one", 1)]) (t := .nm 1) (by walk_at "tgt") (by walk_at "blk") (by decide) (tvi_lst (tv_callB (by rfl) (by walk_at "as") (by walk_at "bt") (tva_cons (TV.castL (tv_callTy (by rfl) (by walk_at "as") (by walk_at "bt") (by walk_at "va") (pf_listD diT_l)) ek) tva_nil) (pf_sortedT lsT_l))) hn (fun _ _ => rfl) (fun k hk => tv_tup (tva_cons (by walk_at "v") (tva_cons (by
        obtain ⟨p, hp, rfl⟩ := List.mem_map.mp ((srtT_perm _).mem_iff.mp hk)
        exact tv_dix (k := .inr p.1) (by walk_at "v") (by walk_at "v") diT_l (by rw [cD_get, cget_mem nd p hp]; rfl)) tva_nil)))) e1) lsT_l nds) q
def spDict : TSpec := fun ds σ Q E => ∃ (p : Addr) (w : Nat) (M : Int) (N : Nat) (xs : List DT), ds = [.ref p, .int (w : Int), .int M] ∧ 1 ≤ w ∧ w ≤ 12 ∧ 0 ≤ M ∧ M + w ≤ 201 ∧ σ p = some (.lst xs) ∧ reelOk N xs ∧ N < 2 ^ 58 ∧
  ∀ (t : CS) xs', CSok w t → csum t ≤ M → reelOk (N + 250000) xs' → Q (.dct (cD t)) (su σ p (.lst xs'))
end
end Y

/-! ### a drawn tally -/
namespace Y
open PySem PySem.Spec L2 SX Z
def addM (t : CS) (k : List Nat) (m : Int) : CS := if (t.any fun p => decide (p.1 = k)) = true then t.map (fun p => if p.1 = k then (p.1, (cget t k).getD 0 + m) else p) else t ++ [(k, m)]
theorem cD_addM (t : CS) (k : List Nat) (m : Int) : putT (cD t) (.inr k) (.int ((cget t k).getD 0 + m)) = cD (addM t k m) := by
  unfold putT addM
  rw [cD_any]
  cases h : t.any fun p => decide (p.1 = k) with
  | true =>
    simp only [if_true]
    unfold cD iD cT
    simp only [List.map_map]
    refine List.map_congr_left fun p _ => ?_
    by_cases e : p.1 = k
    · simp [e]
    · simp [e]
  | false =>
    rw [cget_none h]
    simp [cD, iD, cT]
theorem cget_pos {t : CS} {k : List Nat} (h : ∀ p ∈ t, 1 ≤ p.2) : 0 ≤ (cget t k).getD 0 := by
  induction t with
  | nil => exact Int.le_refl _
  | cons p t ih =>
    rw [cget_cons]
    have h1 := h p List.mem_cons_self
    have h2 := ih fun q hq => h q (List.mem_cons_of_mem _ hq)
    split
    · show 0 ≤ p.2
      omega
    · exact h2
theorem CSok.add {w : Nat} {t : CS} {k : List Nat} {m : Int} (h : CSok w t) (hm : 1 ≤ m) (k1 : k.length = w) (k2 : k.all isLet = true) (hs : csum t + m + w ≤ 201) : CSok w (addM t k m) := by
  have cp := cget_pos (k := k) h.pos
  unfold addM
  cases e : t.any fun p => decide (p.1 = k) with
  | true =>
    rw [if_pos rfl]
    have e2 : ((t.map fun p => if p.1 = k then (p.1, (cget t k).getD 0 + m) else p).map (·.1)) = t.map (·.1) := by
      rw [List.map_map]
      refine List.map_congr_left fun p _ => ?_
      show (if p.1 = k then (p.1, (cget t k).getD 0 + m) else p).1 = p.1
      split <;> rfl
    refine ⟨by rw [e2]; exact h.nd, fun p hp => ?_, fun p hp => ?_, ?_⟩
    · obtain ⟨q, hq, rfl⟩ := List.mem_map.mp hp
      split
      · exact h.key q hq
      · exact h.key q hq
    · obtain ⟨q, hq, rfl⟩ := List.mem_map.mp hp
      split
      · show 1 ≤ (cget t k).getD 0 + m
        omega
      · exact h.pos q hq
    · rw [rep_sum k _ t h.nd e]
      omega
  | false =>
    rw [if_neg (by decide)]
    refine ⟨?_, fun p hp => ?_, fun p hp => ?_, ?_⟩
    · rw [List.map_append, List.nodup_append]
      refine ⟨h.nd, by simp, fun a ha b hb => ?_⟩
      obtain ⟨p, hp, rfl⟩ := List.mem_map.mp ha
      have := List.any_eq_false.mp e p hp
      simp only [List.map_cons, List.map_nil, List.mem_singleton] at hb
      rw [hb]
      simpa using this
    · rcases List.mem_append.mp hp with hp | hp
      · exact h.key p hp
      · rw [List.mem_singleton.mp hp]; exact ⟨k1, k2⟩
    · rcases List.mem_append.mp hp with hp | hp
      · exact h.pos p hp
      · rw [List.mem_singleton.mp hp]; exact hm
    · have : csum (t ++ [(k, m)]) = csum t + m := by simp [csum]
      rw [this]
      exact hs
theorem csum_addM {t : CS} {k : List Nat} {m : Int} (h : (t.map (·.1)).Nodup) : csum (addM t k m) = csum t + m := by
  unfold addM
  cases e : t.any fun p => decide (p.1 = k) with
  | true =>
    rw [if_pos rfl, rep_sum k _ t h e]
    omega
  | false => simp [csum]
section
variable {P : Program} {w : World} {F : PySem.W.Frag} {mg : Str → Option Value} {base : Heap}
set_option maxHeartbeats 600000 in
theorem ok_dict (L0 : Dt P w F mg base "_law_draw" ["_law_reel_here", "_law_many"] 1 spDraw) (L2 : Dt P w F mg base "_law_word" ["_law_reel_here", "_law_low", "_law_high"] 2 spWord) (b1 : mg "min" = none)
    (Fn : DfN F mg "_law_dict" ["_law_reel_here", "_law_wide", "_law_most"] s_law_dict) : Dt P w F mg base "_law_dict" ["_law_reel_here", "_law_wide", "_law_most"] 3 spDict := by
  refine dt_ok Fn sc_law_dict (fun ds σ Q E h => ?_) (fun ds σ Q E Wx h => ?_)
  · obtain ⟨p, w, M, N, xs, rfl, _⟩ := h
    rfl
  · obtain ⟨p, w, M, N, xs, rfl, w1, w2, M0, M1, hσ, ok, hN, q⟩ := h
    rw [← su_self hσ]
    have q : ∀ (t : CS) xs', CSok w t → csum t ≤ M → reelOk (N + 250000) xs' → Q (.dct (cD t)) (su σ p (.lst xs')) := q
    refine tk_cons (ts_par (i := 3) (j := 4) (by rfl) (by rfl) (by decide) (by rfl) (by rfl) (ta_cons (te_dict0 fun z hz => ?_)) (fun env hb hx hy => sw_two hb hx hy rfl rfl rfl rfl rfl))
    have zp : z ≠ p := fun e => by rw [e, su_same] at hz; cases hz
    have hzn : σ z = none := by rw [su_ne zp] at hz; exact hz
    rw [su_comm zp.symm]
    refine ta_cons (te_draw L0 (by walk_at "k") (by rfl) (by walk_at "va") ok (by omega) (by omega) (by omega) fun left xs1 l0 l1 ok1 => ta_nil ⟨_, _, rfl, ?_⟩)
    refine tk_cons (ts_while (fun m ρ1 σ2 => ∃ (t : CS) (xs : List DT) (lf : Int) (a5 a6 : Option DT), σ2 = su (su σ z (.dct (cD t))) p (.lst xs) ∧ CSok w t ∧ 0 ≤ lf ∧ csum t + lf ≤ M ∧ m = lf.toNat ∧ reelOk (N + 1 + (201 - lf.toNat) * 1002) xs ∧ ρ1 = [some (.ref p), some (.int (w : Int)), some (.int M), some (.ref z), some (.int lf), a5, a6])
      (m0 := left.toNat) ⟨[], xs1, left, none, none, rfl, ⟨List.nodup_nil, (fun _ h => nomatch h), (fun _ h => nomatch h), by simp [csum]; omega⟩, l0, by simp [csum]; omega, rfl, reel_le ok1 (by omega), rfl⟩ ?_)
    rintro m ρ1 σ2 ⟨t, xs2, lf, a5, a6, rfl, ct, f0, f1, rfl, ok2, rfl⟩
    refine (by walk_at "t" : TB _ _ _ _ _).to ⟨fun hv => ?_, fun hv => ?_⟩
    · have lf1 : 1 ≤ lf := by have := of_decide_eq_true hv; omega
      have lf2 : lf ≤ 200 := by
        have := ct.len
        omega
      refine tk_set (i := 5) (by walk_at "sto") (te_own L2 (by walk_at "k") (by rfl) ((by walk_at "va" : TVA _ _ _ _ [.ref p, .int (w : Int), .int (w : Int)]).to ⟨p, w, w, N + 1 + (201 - lf.toNat) * 1002, xs2, rfl, su_same, ok2, by omega, w1, Nat.le_refl _, by omega, fun k xs3 k1 k2 k3 ok3 => ?_⟩))
      rw [su_su]
      have kw : k.length = w := by omega
      refine tk_set (i := 6) (by walk_at "sto") (te_bin (te_v (by walk_at "v") (te_own L0 (by walk_at "k") (by rfl) (ta_v (by walk_at "v") (ta_cons (te_sub (te_v (tv_lst (by walk_at "va")) (te_draw L0 (by walk_at "k") (by rfl) (by walk_at "va") ok3 (by omega) (by omega) (by omega) fun dw xs4 d0 d1 ok4 => ?_))) )))))
      obtain ⟨mx, hmx, m1, m2⟩ : ∃ mx : Int, atI [DT.int 1, DT.int 3, DT.int lf] dw = some (.int mx) ∧ 1 ≤ mx ∧ mx ≤ 201 := by
        have : dw = 0 ∨ dw = 1 ∨ dw = 2 := by omega
        rcases this with rfl | rfl | rfl
        · exact ⟨1, rfl, by omega, by omega⟩
        · exact ⟨3, rfl, by omega, by omega⟩
        · exact ⟨lf, rfl, by omega, by omega⟩
      refine ⟨.int mx, pi_lst lsT_l hmx, ta_nil ⟨p, mx, _, xs4, rfl, su_same, ok4, by omega, m1, by omega, fun mn xs5 n0 n1 ok5 => ?_⟩⟩
      rw [su_su]
      refine ⟨_, po_addI, ?_⟩
      refine tk_setV (i := 6) (by walk_at "sto") (by walk_at "v") ?_
      have hz : (su (su σ z (.dct (cD t))) p (.lst xs5)) z = some (.dct (cD t)) := by rw [su_ne zp, su_same]
      have hn : (cD t).length < 16777216 := by
        have := ct.small
        have e : (cD t).length = t.length := by simp [cD, iD, cT]
        omega
      have eg : (dvl (cD t) (.inr k)).getD (.int 0) = .int ((cget t k).getD 0) := by
        rw [cD_get]
        cases cget t k <;> rfl
      refine tk_cons (ts_setItemD ((tv_bin (TV.cast (tv_meth PySem.F.plainAttrs_dict PySem.F.slot_dict_get PySem.F.type_dict_get (by walk_at "v") (ty_dct (diT_c hz)) (by walk_at "va") (pm_get2 (k := .inr k) (d := .int 0) (diT_c hz))) eg) (by walk_at "v") po_addI).to ((by walk_at "v" : TV _ _ _ _ (.ref z)).to ((by walk_at "v" : TV _ _ _ _ (.str k)).to ⟨z, _, .inr k, rfl, rfl, hz, hn, ?_⟩))))
      rw [su_comm zp.symm, su_su, cD_addM]
      have mi1 : 1 ≤ min (1 + mn) lf := by omega
      refine tk_setV (i := 4) (by walk_at "sto") (by walk_at "v") (tk_nil ⟨(lf - min (1 + mn) lf).toNat, by omega, _, xs5, lf - min (1 + mn) lf, _, _, rfl, ct.add mi1 kw k3 (by omega), by omega, by rw [csum_addM ct.nd]; omega, rfl, reel_le ok5 (by omega), rfl⟩)
    · have lf0 : lf = 0 := by have := of_decide_eq_false hv; omega
      subst lf0
      have hz : (su (su σ z (.dct (cD t))) p (.lst xs2)) z = some (.dct (cD t)) := by rw [su_ne zp, su_same]
      refine tk_cons (ts_ret (te_frz ((by walk_at "v" : TV _ _ _ _ (.ref z)).to ⟨z, _, rfl, hz, ?_⟩)))
      rw [su_comm zp, sd_su (by rw [su_ne zp]; exact hzn)]
      exact q t xs2 ct (by omega) (reel_le ok2 (by omega))
end
end Y

/-! ### whether a table shows these counts -/
namespace Y
open PySem PySem.Spec L2 SX Z
theorem let_small {l : List Nat} (h : l.all isLet = true) : l.all (fun k => decide (k < 1114112)) = true := by
  rw [List.all_eq_true] at h ⊢
  intro k hk
  have := h k hk
  unfold isLet at this
  simp only [Bool.and_eq_true, decide_eq_true_eq] at this ⊢
  omega
theorem gdK_cD {w : Nat} (hw : w ≤ 12) : ∀ (t : CS) (W : Nat), t.length * 300 ≤ W → (∀ p ∈ t, p.1.length = w ∧ p.1.all isLet = true) → (∀ p ∈ t, 0 ≤ p.2 ∧ p.2 ≤ 1000) → GdK 4 W (cD t)
  | [], _, _, _, _ => .nil
  | p :: t, W, hW, hk, hp => by
    obtain ⟨k1, k2⟩ := hk p List.mem_cons_self
    obtain ⟨p1, p2⟩ := hp p List.mem_cons_self
    have ih := gdK_cD hw t (t.length * 300) (Nat.le_refl _) (fun q hq => hk q (List.mem_cons_of_mem _ hq)) (fun q hq => hp q (List.mem_cons_of_mem _ hq))
    rw [List.length_cons] at hW
    exact .cons (w0 := 12) (w1 := 203) (w2 := t.length * 300) (k := .inr p.1) (x := .int p.2) (Gd.str (by omega) (let_small k2)) (.int (by omega) (Nat.le_refl _)) ih (by omega)
theorem val_le {w : Nat} {t : CS} (h : CSok w t) : ∀ p ∈ t, 0 ≤ p.2 ∧ p.2 ≤ 1000 := by
  have : ∀ l : CS, (∀ p ∈ l, 1 ≤ p.2) → 0 ≤ csum l ∧ ∀ p ∈ l, p.2 ≤ csum l := by
    intro l
    induction l with
    | nil => intro _; exact ⟨Int.le_refl _, fun p hp => nomatch hp⟩
    | cons q l ih =>
      intro hp
      obtain ⟨a, b⟩ := ih fun p h => hp p (List.mem_cons_of_mem _ h)
      have c := hp q List.mem_cons_self
      have e : csum (q :: l) = q.2 + csum l := by simp [csum]
      rw [e]
      refine ⟨by omega, fun p h => ?_⟩
      rcases List.mem_cons.mp h with z | h
      · rw [z]; omega
      · have := b p h; omega
  intro p hp
  have a := h.pos p hp
  have b := (this t h.pos).2 p hp
  have c := h.sum
  omega
def spShows (C : Addr) : TSpec := fun ds σ Q E => ∃ (w : Nat) (u : CS), ds = [tabT C w (srtC u), .int (w : Int), .dct (cD u)] ∧ 1 ≤ w ∧ w ≤ 12 ∧ CSok w u ∧ Q (.bl true) σ
section
variable {P : Program} {w : World} {F : PySem.W.Frag} {mg : Str → Option Value} {base : Heap} {C : Addr}
set_option maxHeartbeats 600000 in
theorem ok_shows (sm : ∃ ob, base.get? sysModules = some ob) (hc : Cls F C) (L : Dt P w F mg base "_law_ordered" ["_law_counts_here"] 1 spOrd) (M1 : DtP P w F mg base C "width" 1 (spTab C fun w _ => .int (w : Int))) (M2 : DtP P w F mg base C "counts" 1 (spTab C fun _ t => .dct (cD t))) (M3 : DtP P w F mg base C "total" 1 (spTab C fun _ t => .int (csum t)))
    (M4 : DtM P w F mg base C "__len__" ["self"] 1 (spTab C fun _ t => .int (t.length : Int))) (M5 : DtM P w F mg base C "times_of" ["self", "window"] 2 (spTimes C)) (M6 : DtM P w F mg base C "__contains__" ["self", "value"] 1 (spHas C))
    (b1 : mg "repr" = none) (b2 : mg "len" = none) (b3 : mg "sum" = none) (Fn : DfN F mg "_law_shows" ["_law_table", "_law_wide", "_law_counts_here"] s_law_shows) : Dt P w F mg base "_law_shows" ["_law_table", "_law_wide", "_law_counts_here"] 3 (spShows C) := by
  refine dt_ok Fn sc_law_shows (fun ds σ Q E h => ?_) (fun ds σ Q E Wx h => ?_)
  · obtain ⟨w, u, rfl, _⟩ := h
    rfl
  · obtain ⟨w, u, rfl, w1, w2, ok, q⟩ := h
    have ok2 := ok.srt
    have hs := ok2.len
    have hb := ok2.sum
    generalize ht : srtC u = t at ok2 hs hb ⊢
    have hl : t.length ≤ 200 := by omega
    refine tk_setV (i := 3) (by walk_at "sto") (tv_own (d := .dct (cD t)) L (by walk_at "k") (by rfl) (by walk_at "va") (fun q => ⟨u, rfl, ok.nd, by have := ok.len; have := ok.sum; omega, by rw [ht]; exact q⟩)) ?_
    have vt := val_le ok2
    have hsm : ((cT t).map (·.2)).sum = csum t := by unfold cT csum; rw [List.map_map]; rfl
    have hp0 : ∀ q ∈ cT t, 0 ≤ q.2 := fun q hq => by
      obtain ⟨z, hz, rfl⟩ := List.mem_map.mp hq
      exact (vt z hz).1
    have g : Gd 6 100000 (.lst [.int (w : Int), .dct (cD t), .int (csum t), .int (t.length : Int)]) := .lst (.cons (w1 := 203) (w2 := 70000) (.int (by omega) (Nat.le_refl _)) (.cons (w1 := 60001) (w2 := 1000) (.dct (gdK_cD w2 t _ (by omega) ok2.key vt)) (.cons (w1 := 203) (w2 := 300) (.int (by omega) (Nat.le_refl _)) (.cons (w1 := 203) (w2 := 0) (.int (by omega) (Nat.le_refl _)) .nil (by decide)) (by decide)) (by decide)) (by decide))
    unfold tabT
    refine tk_ifF (TB.cast (tb_cmp (tv_callB (by rfl) (by walk_at "as") (by walk_at "bt") (tva_cons (tv_lst (tva_cons (tv_prop M1 (by walk_at "k") hc (by walk_at "v") (fun q => ⟨w, t, rfl, w1, w2, ok2, q⟩)) (tva_cons (tv_prop M2 (by walk_at "k") hc (by walk_at "v") (fun q => ⟨w, t, rfl, w1, w2, ok2, q⟩)) (tva_cons (tv_prop M3 (by walk_at "k") hc (by walk_at "v") (fun q => ⟨w, t, rfl, w1, w2, ok2, q⟩)) (tva_cons (tv_callB (by rfl) (by walk_at "as") (by walk_at "bt") (by walk_at "va") (pf_lenO M4 (by walk_at "k") (by omega) (fun q => ⟨w, t, rfl, w1, w2, ok2, q⟩))) tva_nil))))) tva_nil) (pf_reprG sm rfl g (by decide) (by decide)))
      (tv_callB (by rfl) (by walk_at "as") (by walk_at "bt") (tva_cons (tv_lst (tva_cons (by walk_at "v") (tva_cons (by walk_at "v") (tva_cons (TV.castI (tv_sumV (ks := cT t) (by rfl) (by walk_at "as") (by walk_at "v") diT_l hp0 (by rw [hsm]; omega)) hsm) (tva_cons (TV.castI (tv_callB (by rfl) (by walk_at "as") (by walk_at "bt") (by walk_at "va") (pf_lenD diT_l)) (by simp [cD, iD, cT])) tva_nil))))) tva_nil) (pf_reprG sm rfl g (by decide) (by decide))) (by walk_at "o2") (by rfl)) (by simp)) (tk_nil ?_)
    have fl : ((t.filter fun _ => false).map fun p => DT.str p.1) = [] := by rw [List.map_eq_nil_iff, List.filter_eq_nil_iff]; intro _ _ z; cases z
    refine tk_ret (TV.castB (tv_cmp (TV.castL (tv_lc (α := List Nat × Int) (l := t) (g := fun p => .str p.1) (f := fun p => .str p.1) (tt := fun _ => false) (own := [("_law_one", 4)]) (t := .nm 4) (by walk_at "tgt") (by walk_at "blk") (by decide) (cD_walk t ▸ tvi_keys (by walk_at "v")) ok2.small (fun _ _ => rfl)
      (fun p hp => ⟨TB.cast (tb_W (tbw_or (tb_cmp (tv_own_m (d := .int p.2) M5 (by walk_at "k") hc (by walk_at "v") (by rfl) (by walk_at "va") (fun q => ⟨w, t, p.1, rfl, (ok2.key p hp).1, w2, (ok2.key p hp).2, by rw [cget_mem ok2.nd p hp]; exact q⟩) (fun env => ⟨_, rfl⟩)) (tv_dix (d := .int p.2) (k := .inr p.1) (by walk_at "v") (by walk_at "v") diT_l (by rw [cD_get, cget_mem ok2.nd p hp]; rfl)) (by walk_at "o2") (by rfl)) (fun _ => tbw_or1 (tb_cmp (by walk_at "v") (by walk_at "v") (po_notInO (b := true) M6 (by walk_at "k") (fun q => ⟨w, t, p.1, rfl, by rw [cget_mem ok2.nd p hp]; exact q⟩)) (by rfl))))) (by simp), fun z => by cases z⟩)) fl) (by walk_at "v") (po_eqNil sm (fun _ z => nomatch z)) (by rfl)) (by rfl)) q
end
end Y

/-! ### tallies added -/
namespace Y
open PySem PySem.Spec L2 SX Z
def addF (t u : CS) : CS := u.foldl (fun a p => addM a p.1 p.2) t
def addT (t u : CS) : CS := (t.map (·.1) ++ (u.map (·.1)).filter fun k => !(cget t k).isSome).map fun k => (k, (cget t k).getD 0 + (cget u k).getD 0)
theorem cget_app_one (t : CS) (k : List Nat) (m : Int) (j : List Nat) (h : cget t k = none) : cget (t ++ [(k, m)]) j = if j = k then some m else cget t j := by
  induction t with
  | nil =>
    show cget ((k, m) :: []) j = _
    rw [cget_cons]
    by_cases e : k = j
    · rw [if_pos e, if_pos e.symm]
    · rw [if_neg e, if_neg (fun z => e z.symm)]
  | cons p t ih =>
    rw [cget_cons] at h
    split at h
    · cases h
    · next ne =>
      show cget (p :: (t ++ [(k, m)])) j = _
      rw [cget_cons, cget_cons, ih h]
      by_cases e : p.1 = j
      · rw [if_pos e, if_pos e, if_neg (fun z => ne (e.trans z))]
      · rw [if_neg e, if_neg e]
theorem cget_put (t : CS) (k : List Nat) (v : Int) (j : List Nat) : cget (t.map fun p => if p.1 = k then (p.1, v) else p) j = if j = k then (cget t j).map fun _ => v else cget t j := by
  induction t with
  | nil => by_cases e : j = k <;> simp [e] <;> rfl
  | cons p t ih =>
    rw [List.map_cons, cget_cons, cget_cons, ih]
    by_cases e : p.1 = k
    · rw [if_pos e]
      by_cases e2 : p.1 = j
      · rw [if_pos e2, if_pos e2, if_pos (e2.symm.trans e)]; rfl
      · rw [if_neg e2, if_neg e2]
    · rw [if_neg e]
      by_cases e2 : p.1 = j
      · rw [if_pos e2, if_pos e2, if_neg (fun z => e (e2.trans z))]
      · rw [if_neg e2, if_neg e2]
theorem cget_any {t : CS} {k : List Nat} : (t.any fun p => decide (p.1 = k)) = (cget t k).isSome := by
  induction t with
  | nil => rfl
  | cons p t ih =>
    rw [List.any_cons, cget_cons, ih]
    by_cases e : p.1 = k
    · rw [if_pos e, decide_eq_true e]; rfl
    · rw [if_neg e, decide_eq_false e, Bool.false_or]
theorem cget_addM (t : CS) (k : List Nat) (m : Int) (j : List Nat) : cget (addM t k m) j = if j = k then some ((cget t k).getD 0 + m) else cget t j := by
  unfold addM
  cases e : t.any fun p => decide (p.1 = k) with
  | true =>
    rw [if_pos rfl, cget_put]
    by_cases ej : j = k
    · rw [if_pos ej, if_pos ej, ej]
      rw [cget_any] at e
      obtain ⟨v, hv⟩ := Option.isSome_iff_exists.mp e
      rw [hv]
      rfl
    · rw [if_neg ej, if_neg ej]
  | false =>
    rw [if_neg (by decide), cget_app_one t k m j (cget_none e), cget_none e]
    by_cases ej : j = k
    · rw [if_pos ej, if_pos ej]; simp
    · rw [if_neg ej, if_neg ej]
theorem addM_nd {t : CS} {k : List Nat} {m : Int} (h : (t.map (·.1)).Nodup) : ((addM t k m).map (·.1)).Nodup := by
  unfold addM
  cases e : t.any fun p => decide (p.1 = k) with
  | true =>
    rw [if_pos rfl]
    have e2 : ((t.map fun p => if p.1 = k then (p.1, (cget t k).getD 0 + m) else p).map (·.1)) = t.map (·.1) := by
      rw [List.map_map]
      refine List.map_congr_left fun p _ => ?_
      show (if p.1 = k then (p.1, (cget t k).getD 0 + m) else p).1 = p.1
      split <;> rfl
    rw [e2]
    exact h
  | false =>
    rw [if_neg (by decide), List.map_append, List.nodup_append]
    refine ⟨h, by simp, fun a ha b hb => ?_⟩
    obtain ⟨p, hp, rfl⟩ := List.mem_map.mp ha
    have := List.any_eq_false.mp e p hp
    simp only [List.map_cons, List.map_nil, List.mem_singleton] at hb
    rw [hb]
    simpa using this
theorem addF_nd : ∀ (u t : CS), (t.map (·.1)).Nodup → ((addF t u).map (·.1)).Nodup
  | [], _, h => h
  | p :: u, t, h => addF_nd u (addM t p.1 p.2) (addM_nd h)
theorem cget_addF : ∀ (u t : CS), (u.map (·.1)).Nodup → ∀ j, cget (addF t u) j = match cget u j with | none => cget t j | some m => some ((cget t j).getD 0 + m)
  | [], t, _, j => rfl
  | p :: u, t, h, j => by
    rw [List.map_cons, List.nodup_cons] at h
    show cget (addF (addM t p.1 p.2) u) j = _
    rw [cget_addF u _ h.2 j, cget_addM, cget_cons]
    by_cases e : p.1 = j
    · have hn : cget u j = none := by
        refine cget_none (List.any_eq_false.mpr fun q hq => ?_)
        simp only [decide_eq_true_eq]
        exact fun z => h.1 (e ▸ z ▸ List.mem_map_of_mem hq)
      rw [hn, if_pos e.symm, if_pos e, e]
    · rw [if_neg e, if_neg (fun z => e z.symm)]
theorem cs_ext {t u : CS} (h1 : (t.map (·.1)).Nodup) (h2 : (u.map (·.1)).Nodup) (h : ∀ j, cget t j = cget u j) : t.Perm u := by
  have n : ∀ {t : CS}, (t.map (·.1)).Nodup → t.Nodup := fun {t} h => List.Pairwise.imp (fun {a b} z e => z (by rw [e])) (List.pairwise_map.mp h)
  refine (List.perm_ext_iff_of_nodup (n h1) (n h2)).mpr fun a => ?_
  obtain ⟨k, i⟩ := a
  rw [← cget_iff h1, ← cget_iff h2, h]
theorem cget_keys (ks : List (List Nat)) (f : List Nat → Int) (j : List Nat) : cget (ks.map fun k => (k, f k)) j = if j ∈ ks then some (f j) else none := by
  induction ks with
  | nil => rfl
  | cons k ks ih =>
    rw [List.map_cons, cget_cons, ih]
    by_cases e : k = j
    · subst e; simp
    · rw [if_neg e]
      by_cases m : j ∈ ks
      · rw [if_pos m, if_pos (List.mem_cons_of_mem _ m)]
      · rw [if_neg m, if_neg (fun z => (List.mem_cons.mp z).elim (fun z => e z.symm) m)]
theorem cget_some_iff {t : CS} {k : List Nat} : (cget t k).isSome = true ↔ k ∈ t.map (·.1) := by
  rw [← cget_any, List.any_eq_true]
  constructor
  · rintro ⟨p, hp, e⟩
    exact (of_decide_eq_true e) ▸ List.mem_map_of_mem hp
  · intro h
    obtain ⟨p, hp, rfl⟩ := List.mem_map.mp h
    exact ⟨p, hp, decide_eq_true rfl⟩
theorem addT_keys {t u : CS} : (addT t u).map (·.1) = t.map (·.1) ++ (u.map (·.1)).filter fun k => !(cget t k).isSome := by
  unfold addT
  rw [List.map_map]
  exact List.map_id _
theorem addT_nd {t u : CS} (h1 : (t.map (·.1)).Nodup) (h2 : (u.map (·.1)).Nodup) : ((addT t u).map (·.1)).Nodup := by
  rw [addT_keys, List.nodup_append]
  refine ⟨h1, h2.filter _, fun a ha b hb e => ?_⟩
  have := (List.mem_filter.mp hb).2
  rw [← e, cget_some_iff.mpr ha] at this
  cases this
theorem addT_perm {t u : CS} (h1 : (t.map (·.1)).Nodup) (h2 : (u.map (·.1)).Nodup) : (addT t u).Perm (addF t u) := by
  refine cs_ext (addT_nd h1 h2) (addF_nd u t h1) fun j => ?_
  rw [cget_addF u t h2 j]
  unfold addT
  rw [cget_keys _ (fun k => (cget t k).getD 0 + (cget u k).getD 0) j]
  cases ht : cget t j with
  | some a =>
    have mt : j ∈ t.map (·.1) := cget_some_iff.mp (by rw [ht]; rfl)
    rw [if_pos (List.mem_append_left _ mt)]
    cases hu : cget u j with
    | none => simp
    | some b => rfl
  | none =>
    have mt : j ∉ t.map (·.1) := fun z => by have := cget_some_iff.mpr z; rw [ht] at this; cases this
    cases hu : cget u j with
    | none =>
      have mu : j ∉ u.map (·.1) := fun z => by have := cget_some_iff.mpr z; rw [hu] at this; cases this
      rw [if_neg (fun z => (List.mem_append.mp z).elim mt fun z => mu (List.mem_filter.mp z).1)]
    | some b =>
      have mu : j ∈ u.map (·.1) := cget_some_iff.mp (by rw [hu]; rfl)
      rw [if_pos (List.mem_append_right _ (List.mem_filter.mpr ⟨mu, by rw [ht]; rfl⟩))]
      rfl
theorem csum_cons (p : List Nat × Int) (t : CS) : csum (p :: t) = p.2 + csum t := by simp [csum]
theorem csum_nn {t : CS} (h : ∀ p ∈ t, 1 ≤ p.2) : 0 ≤ csum t := by
  induction t with
  | nil => exact Int.le_refl _
  | cons p t ih =>
    rw [csum_cons]
    have := h p List.mem_cons_self
    have := ih fun q hq => h q (List.mem_cons_of_mem _ hq)
    omega
theorem addF_ok {w : Nat} : ∀ (u t : CS), CSok w t → (∀ p ∈ u, p.1.length = w ∧ p.1.all isLet = true) → (∀ p ∈ u, 1 ≤ p.2) → csum t + csum u + w ≤ 201 → CSok w (addF t u) ∧ csum (addF t u) = csum t + csum u
  | [], t, h, _, _, _ => ⟨h, by simp [addF, csum]⟩
  | p :: u, t, h, hk, hp, hs => by
    rw [csum_cons] at hs ⊢
    have nn := csum_nn fun q hq => hp q (List.mem_cons_of_mem _ hq)
    obtain ⟨k1, k2⟩ := hk p List.mem_cons_self
    have a := h.add (hp p List.mem_cons_self) k1 k2 (by omega)
    have e := csum_addM (k := p.1) (m := p.2) h.nd
    obtain ⟨i1, i2⟩ := addF_ok u (addM t p.1 p.2) a (fun q hq => hk q (List.mem_cons_of_mem _ hq)) (fun q hq => hp q (List.mem_cons_of_mem _ hq)) (by rw [e]; omega)
    exact ⟨i1, by show csum (addF (addM t p.1 p.2) u) = _; rw [i2, e]; omega⟩
theorem addT_ok {w : Nat} {t u : CS} (h1 : CSok w t) (h2 : CSok w u) (hs : csum t + csum u + w ≤ 201) : CSok w (addT t u) := ((addF_ok u t h1 h2.key h2.pos hs).1).perm (addT_perm h1.nd h2.nd).symm
theorem srt_add {t u : CS} (h1 : (t.map (·.1)).Nodup) (h2 : (u.map (·.1)).Nodup) : srtC (addT t u) = srtC (addF t u) := srtC_same (addT_perm h1 h2) (addT_nd h1 h2)
end Y

/-! ### tallies of windows, by hand and piece by piece -/
namespace Y
open PySem PySem.Spec L2 SX Z
theorem cget_tal' (k : List Nat) : ∀ (l : List (List Nat)) (t : CS), cget (l.foldl addC t) k = if k ∈ l then some ((cget t k).getD 0 + (l.count k : Int)) else cget t k
  | [], t => by simp
  | x :: l, t => by
    rw [List.foldl_cons, cget_tal' k l]
    have e : cget (addC t x) k = if k = x then some ((cget t x).getD 0 + 1) else cget t k := cget_addM t x 1 k
    rw [e, List.count_cons]
    by_cases h : k = x
    · subst h
      rw [if_pos rfl, if_pos List.mem_cons_self]
      by_cases m : k ∈ l
      · rw [if_pos m]
        simp
        omega
      · rw [if_neg m]
        simp [List.count_eq_zero_of_not_mem m]
    · rw [if_neg h]
      have hx : (x == k) = false := by simpa using fun z => h z.symm
      by_cases m : k ∈ l
      · rw [if_pos m, if_pos (List.mem_cons_of_mem _ m)]
        simp [hx]
      · rw [if_neg m, if_neg (by simp [h, m])]
theorem cget_tal (l : List (List Nat)) (k : List Nat) : cget (tal l) k = if k ∈ l then some (l.count k : Int) else none := by
  have := cget_tal' k l []
  rw [show cget [] k = none from rfl] at this
  unfold tal
  simpa using this
theorem own_counts (l : List (List Nat)) : ((dedT l).map fun k => (k, ((l.count k : Nat) : Int))) = srtC (tal l) := by
  have hk : ((tal l).map (·.1)).Perm (dedL l) := (List.perm_ext_iff_of_nodup (tal_nd l) (ded_nd l)).mpr fun x => by rw [(tal_all l).2.2 x, ded_mem]
  unfold srtC
  rw [srtT_same hk]
  refine List.map_congr_left fun k hk => ?_
  have : k ∈ l := (ded_mem l k).mp ((srtT_perm _).mem_iff.mp hk)
  rw [cget_tal, if_pos this]
  rfl
end Y

/-! ### k05: a table of a dict that changes; windows and counts by hand -/
namespace Y
open PySem PySem.Spec L2 SX Z
def spInitL (C : Addr) : TSpec := fun ds σ Q E => ∃ (p g : Addr) (w : Nat) (t : CS), ds = [.ref p, .int (w : Int), .ref g] ∧ σ p = some (.obj C []) ∧ σ g = some (.dct (cD t)) ∧ 1 ≤ w ∧ w ≤ 12 ∧ CSok w t ∧ Q .non (su σ p (.obj C [("letters", .int (w : Int)), ("found", .dct (cD (srtC t)))]))
def spTabCntC (C : Addr) : TSpec := fun ds σ Q E => ∃ (w : Nat) (t : CS), ds = [tabT C w t] ∧ 1 ≤ w ∧ w ≤ 12 ∧ CSok w t ∧ ∀ D, σ D = none → Q (.ref D) (su σ D (.dct (cD t)))
def spCntW : TSpec := fun ds σ Q E => ∃ l : List (List Nat), ds = [.lst (l.map DT.str)] ∧ l.length ≤ 1000 ∧ Q (.dct (cD (srtC (tal l)))) σ
section
variable {P : Program} {w : World} {F : PySem.W.Frag} {mg : Str → Option Value} {base : Heap} {C f : Addr} {fd : FuncData} {qual : Str}
local macro_rules | `(tactic| walk_at "fl") => `(tactic| exact tv_fld (by walk_at "v") obX_o (by assumption) (by assumption) (by rfl))
set_option maxHeartbeats 400000 in
theorem ok_tab_countsC (hc : Cls F C) (n2 : NoAttr F C "found") (Fn : Fun F "counts" qual s_Table_counts f fd) : FnG P w F mg base 1 f fd ["self"] (spT F (spTabCntC C)) := by
  refine fnT_ok Fn sc_Table_counts (fun ds σ Q E h => ?_) (fun ds σ Q E Wx h => ?_)
  · obtain ⟨w, t, rfl, _⟩ := h
    rfl
  · obtain ⟨w, t, rfl, _, _, ok, q⟩ := h
    unfold tabT
    refine tk_cons (ts_ret (tc_dc (α := List Nat × Int) (l := t) (g := fun p => .str p.1) (kf := fun p => .inr p.1) (vf := fun p => .int p.2) (own := [("window", 1)]) (t := .nm 1) (by walk_at "tgt") (by walk_at "blk") (by decide) (cD_walk t ▸ tvi_keys (by walk_at "fl")) ok.small (fun _ _ => rfl) (fun p hp => ⟨by walk_at "v", tv_dix (k := .inr p.1) (by walk_at "fl") (by walk_at "v") diT_l (by rw [cD_get, cget_mem ok.nd p hp]; rfl)⟩) (inr_nd ok.nd) fun D hD => ?_))
    rw [cD_eq t]
    exact q D hD
set_option maxHeartbeats 400000 in
theorem ok_tab_initL (L1 : Dt P w F mg base "is_integer" ["value", "low", "high"] 1 spInt) (L2 : Dt P w F mg base "is_counts" ["width", "value"] 2 spIsCounts) (hc : Cls F C) (n1 : NoAttr F C "letters") (n2 : NoAttr F C "found")
    (Fn : Fun F "__init__" qual s_Table_init f fd) (g : GlT F mg "WIDEST" (.int 12)) (b1 : mg "sorted" = none) : FnG P w F mg base 3 f fd ["self", "width", "counts"] (spT F (spInitL C)) := by
  refine fnT_ok Fn sc_Table_init (fun ds σ Q E h => ?_) (fun ds σ Q E Wx h => ?_)
  · obtain ⟨p, g, w, t, rfl, _⟩ := h
    rfl
  · obtain ⟨p, g, w, t, rfl, hp, hg, w1, w2, ok, q⟩ := h
    have ne : g ≠ p := fun e => by rw [e, hp] at hg; cases hg
    have hg2 : ∀ x, (su σ p x) g = some (.dct (cD t)) := fun x => by rw [su_ne ne]; exact hg
    refine tk_ifF (TB.cast (tb_not (tb_val (tv_own (d := .bl true) L1 (by walk_at "k") (by rfl) (by walk_at "va") (fun q => ⟨(w : Int), 1, some 12, rfl, by
      have a1 : (1 : Int) ≤ w := by omega
      have a2 : (w : Int) ≤ 12 := by omega
      simp only [decide_eq_true a1, decide_eq_true a2]
      exact q⟩)))) (by rfl)) (tk_nil ?_)
    refine tk_ifF (TB.cast (tb_not (tb_val (tv_thaw (i := 2) (p := g) (kvs := cD t) (d := .bl true) (by rfl) hg trivial (tv_own (d := .bl true) L2 (by walk_at "k") (by rfl) (by walk_at "va" : TVA _ _ _ _ [.int (w : Int), .dct (cD t)]) (fun q => ⟨w, t, rfl, w1, w2, ok, q⟩))))) (by rfl)) (tk_nil ?_)
    refine tk_cons (ts_setFld ((by walk_at "v" : TV _ _ _ _ (.int (w : Int))).to ((by walk_at "v" : TV _ _ _ _ (.ref p)).to ⟨p, C, [], rfl, hp, hc, n1, Nat.le_of_ble_eq_true rfl, ?_⟩)))
    have hn : (srtT (t.map (·.1))).length ≤ 1000000 := by
      have a := ok.len
      have b := ok.sum
      have c := (srtT_perm (t.map (·.1))).length_eq
      rw [List.length_map] at c
      omega
    have mem : ∀ k ∈ srtT (t.map (·.1)), ∃ i, cget t k = some i := fun k hk => by
      obtain ⟨p, hp, rfl⟩ := List.mem_map.mp ((srtT_perm _).mem_iff.mp hk)
      exact ⟨_, cget_mem ok.nd p hp⟩
    have nd : ((srtT (t.map (·.1))).map (Sum.inr : List Nat → DK)).Nodup := (List.pairwise_map.mpr (((srtT_perm _).nodup_iff.mpr ok.nd).imp fun {a b} h e => h (Sum.inr.inj e)))
    have e1 : (srtT (t.map (·.1))).map (fun k => ((Sum.inr k : DK), DT.int ((cget t k).getD 0))) = cD (srtC t) := by
      unfold cD iD cT srtC
      simp [List.map_map, Function.comp_def]
    refine tk_cons (ts_setFld ((e1 ▸ tv_dc (α := List Nat) (l := srtT (t.map (·.1))) (g := DT.str) (kf := Sum.inr) (vf := fun k => .int ((cget t k).getD 0)) (own := [("window", 3)]) (t := .nm 3) (by walk_at "tgt") (by walk_at "blk") (by decide) (tvi_lst (tv_callB (by rfl) (by walk_at "as") (by walk_at "bt") (by walk_at "va" : TVA _ _ _ _ [.ref g]) (pf_sortedDT (diT_c (hg2 _)) (cD_keys t)))) hn (fun _ _ => rfl)
      (fun k hk => ⟨by walk_at "v", by
        obtain ⟨i, hi⟩ := mem k hk
        exact tv_dix (k := .inr k) (by walk_at "v" : TV _ _ _ _ (.ref g)) (by walk_at "v") (diT_c (hg2 _)) (by rw [cD_get, hi]; rfl)⟩) nd : TV _ _ _ _ (.dct (cD (srtC t)))).to ((by walk_at "v" : TV _ _ _ _ (.ref p)).to ⟨p, C, _, rfl, su_same, hc, n2, Nat.le_of_ble_eq_true rfl, ?_⟩)))
    rw [su_su]
    exact tk_nil q
set_option maxHeartbeats 400000 in
theorem ok_wins5 (b1 : mg "range" = none) (b2 : mg "len" = none) (b3 : mg "max" = none) (Fn : DfN F mg "_law_windows" ["_law_text", "_law_wide"] s_law_windows) : Dt P w F mg base "_law_windows" ["_law_text", "_law_wide"] 1 spWins := by
  refine dt_ok Fn sc_law_windows (fun ds σ Q E h => ?_) (fun ds σ Q E Wx h => ?_)
  · obtain ⟨r, w, rfl, _⟩ := h
    rfl
  · obtain ⟨r, w, rfl, hr, hw, q⟩ := h
    have e1 : (max (0 : Int) ((r.length : Int) - w + 1)).toNat = r.length + 1 - w := by omega
    have e2 : ((List.range ((max (0 : Int) ((r.length : Int) - w + 1)).toNat)).map fun i => DT.str ((r.drop i).take w)) = (winL r w).map DT.str := by rw [e1]; unfold winL; rw [List.map_map]; rfl
    refine tk_ret (TV.castL (tv_lcM (α := Nat) (l := List.range ((max (0 : Int) ((r.length : Int) - w + 1)).toNat)) (g := fun i => .int (i : Int)) (f := fun i => .str ((r.drop i).take w)) (own := [("_law_at", 2)]) (t := .nm 2) (by walk_at "tgt") (by walk_at "blk") (by decide) (⟨fun q => ti_range1 (by rfl) (by walk_at "as") (te_v (by walk_at "v") ⟨_, rfl, by omega, q⟩)⟩) (by rw [List.length_range]; omega) (fun _ _ => rfl)
      (fun i _ => TV.castS (by walk_at "v") ((Z.cut_two (i := i) (j := i + w) rfl (by omega)).trans (by rw [Nat.add_sub_cancel_left])))) e2) q
set_option maxHeartbeats 400000 in
theorem ok_counts5 (b3 : mg "dict" = none) (b4 : mg "sorted" = none) (b5 : mg "set" = none) (Fn : DfN F mg "_law_counts" ["_law_windows_here"] s_law_counts) : Dt P w F mg base "_law_counts" ["_law_windows_here"] 1 spCntW := by
  refine dt_ok Fn sc_law_counts (fun ds σ Q E h => ?_) (fun ds σ Q E Wx h => ?_)
  · obtain ⟨l, rfl, _⟩ := h
    rfl
  · obtain ⟨l, rfl, hl, q⟩ := h
    have nd : ((cD (srtC (tal l))).map (·.1)).Nodup := by
      rw [cD_keys]
      exact List.pairwise_map.mpr ((((srtC_perm (tal_nd l)).map (·.1)).nodup_iff.mpr (tal_nd l)).imp fun {a b} n e => n (Sum.inr.inj e))
    have dl : (dedT l).length ≤ 1000 := by
      have a := (srtT_perm (dedL l)).length_eq
      have b := ded_len l
      show (srtT (dedL l)).length ≤ 1000
      omega
    have e1 : ((dedT l).map fun k => DT.tup [.str k, .int ((l.count k : Nat) : Int)]) = (cD (srtC (tal l))).map fun p => .tup [dk p.1, p.2] := by
      rw [← own_counts]
      unfold cD iD cT
      simp [List.map_map, Function.comp_def, dk]
    exact tk_ret (tv_dictP (by rfl) (by walk_at "as") (TV.castL (tv_lcM (α := List Nat) (l := dedT l) (g := DT.str) (f := fun k => .tup [.str k, .int ((l.count k : Nat) : Int)]) (own := [("_law_one", 1)]) (t := .nm 1) (by walk_at "tgt") (by walk_at "blk") (by decide) (tvi_lst (tv_sortedSet (l := l) (by rfl) (by walk_at "as") (by rfl) (by walk_at "as") (by walk_at "v") lsT_l (by omega))) (by omega) (fun _ _ => rfl)
      (fun k hk => tv_tup (tva_cons (by walk_at "v") (tva_cons (tv_meth PySem.F.plainAttrs_list PySem.F.slot_list_count rfl (by walk_at "v" : TV _ _ _ _ (.lst (l.map DT.str))) (ty_lst lsT_l) (by walk_at "va" : TVA _ _ _ _ [.str k]) (pm_count lsT_l)) tva_nil)))) e1) lsT_l nd) q
end
end Y

/-! ### k05: rows and dicts -/
namespace Y
open PySem PySem.Spec L2 SX Z
def spRow5 (C : Addr) : TSpec := fun ds σ Q E => ∃ (r : List Nat) (w : Nat), ds = [.str r, .int (w : Int)] ∧ rowOk r ∧ 1 ≤ w ∧ w ≤ 12 ∧ w ≤ r.length ∧ Q (.bl true) σ
def spDict5 (C : Addr) : TSpec := fun ds σ Q E => ∃ (p : Addr) (w : Nat) (N : Nat) (xs : List DT), ds = [.ref p, .int (w : Int)] ∧ 1 ≤ w ∧ w ≤ 12 ∧ σ p = some (.lst xs) ∧ reelOk N xs ∧ N < 2 ^ 58 ∧ ∀ xs', reelOk (N + 250000) xs' → Q (.bl true) (su σ p (.lst xs'))
section
variable {P : Program} {w : World} {F : PySem.W.Frag} {mg : Str → Option Value} {base : Heap} {C : Addr} {u12 : Value}
set_option maxHeartbeats 600000 in
theorem ok_rowright (hc : Cls F C) (hm : mg "Table" = some (.ref C)) (LW : Dt P w F mg base "_law_windows" ["_law_text", "_law_wide"] 1 spWins) (LC : Dt P w F mg base "_law_counts" ["_law_windows_here"] 1 spCntW) (M0 : DtC P w F mg base C "of" ["cls", "row", "width"] 5 (spOf C))
    (LS : Dt P w F mg base "_law_shows" ["_law_table", "_law_wide", "_law_counts_here"] 3 (spShows C)) (MC : DtP P w F mg base C "counts" 1 (spTabCntC C)) (MT : DtM P w F mg base C "times_of" ["self", "window"] 2 (spTimes C))
    (Fn : DfN F mg "_law_row_right" ["_law_text", "_law_wide"] s_law_row_right) : Dt P w F mg base "_law_row_right" ["_law_text", "_law_wide"] 6 (spRow5 C) := by
  refine dt_ok Fn sc_law_row_right (fun ds σ Q E h => ?_) (fun ds σ Q E Wx h => ?_)
  · obtain ⟨r, w, rfl, _⟩ := h
    rfl
  · obtain ⟨r, w, rfl, hr, w1, w2, w3, q⟩ := h
    have lr := hr.2.1
    refine tk_setV (i := 2) (by walk_at "sto") (tv_own (d := .dct (cD (srtC (tal (winL r w))))) LC (by walk_at "k") (by rfl) (tva_cons (tv_own (d := .lst ((winL r w).map DT.str)) LW (by walk_at "k") (by rfl) (by walk_at "va") (fun q => ⟨r, w, rfl, lr, by omega, q⟩)) tva_nil) (fun q => ⟨winL r w, rfl, by rw [win_len]; omega, q⟩)) ?_
    refine tk_setV (i := 3) (by walk_at "sto") (tv_clsm (d := tabT C w (srtC (tal (winL r w)))) M0 (by walk_at "k") (by rfl) hm (by walk_at "va") (fun q => ⟨r, w, rfl, hr, w1, w2, w3, q⟩) (fun env => ⟨_, rfl⟩)) ?_
    have ct := (tal_ok hr w1 (by omega : w ≤ 201)).srt
    have es := srtC_srtC (tal_nd (winL r w))
    generalize srtC (tal (winL r w)) = t at ct es ⊢
    refine tk_ifF (TB.cast (tb_not (tb_val (tv_own (d := .bl true) LS (by walk_at "k") (by rfl) (by walk_at "va" : TVA _ _ _ _ [tabT C w t, .int (w : Int), .dct (cD t)]) (fun q => ⟨w, t, by rw [es], w1, w2, ct, q⟩)))) (by rfl)) (tk_nil ?_)
    refine tk_set (i := 4) (by walk_at "sto") (te_prop MC (by walk_at "k") hc (te_v (by walk_at "v" : TV _ _ _ _ (tabT C w t)) ⟨_, rfl, w, t, rfl, w1, w2, ct, fun D hD => ?_⟩))
    refine tk_cons (ts_expr (te_meth0 PySem.F.plainAttrs_dict PySem.F.slot_dict_clear PySem.F.type_dict_clear ((by walk_at "v" : TV _ _ _ _ (.ref D)).to ⟨ty_dct (diT_c su_same), tm_clear su_same ?_⟩)))
    rw [su_su]
    have ea : (sOf "a").length = 1 := by decide +kernel
    have ez : (sOf "z").length = 1 := by decide +kernel
    have mS : ∀ {c : Ct} {ρ : EnvT} {σ : Sg} {a b : Expr} {pos : Pos} {s : List Nat}, s.length = 1 → TV c a ρ σ (.str s) → TV c b ρ σ (.int (w : Int)) → TV c (.BinOp a .Mult b pos) ρ σ (.str (List.replicate (w : Int).toNat s).flatten) := fun hs ha hb => tv_bin ha hb (po_mulS (by omega) (by omega) (by rw [hs]; omega))
    refine tk_cons (ts_setItemD ((by walk_at "v" : TV _ _ _ _ (.int 400)).to ((by walk_at "v" : TV _ _ _ _ (.ref D)).to ((mS ea (by walk_at "v") (by walk_at "v")).to ⟨D, [], .inr _, rfl, rfl, su_same, by decide, ?_⟩))))
    rw [su_su]
    refine tk_drop D ?_
    rw [sd_su hD]
    have zl : ((List.replicate (w : Int).toNat (sOf "z")).flatten).length = w := by rw [repl_len, ez]; omega
    have za := repl_all (w : Int).toNat (sOf "z") isLet (by decide +kernel)
    refine tk_setV (i := 5) (by walk_at "sto") (mS ez (by walk_at "v") (by walk_at "v")) ?_
    generalize (List.replicate (w : Int).toNat (sOf "z")).flatten = z at zl za ⊢
    have eg : (dvl (cD t) (.inr z)).getD (.int 0) = .int ((cget t z).getD 0) := by
      rw [cD_get]
      cases cget t z <;> rfl
    exact tk_ret (tv_and (r := true) (s := true) (TV.castB (tv_cmp (tv_own_m (d := .int ((cget t z).getD 0)) MT (by walk_at "k") hc (by walk_at "v" : TV _ _ _ _ (tabT C w t)) (by rfl) (by walk_at "va" : TVA _ _ _ _ [.str z]) (fun q => ⟨w, t, z, rfl, zl, w2, za, q⟩) (fun env => ⟨_, rfl⟩))
      (TV.cast (tv_meth PySem.F.plainAttrs_dict PySem.F.slot_dict_get PySem.F.type_dict_get (by walk_at "v" : TV _ _ _ _ (.dct (cD t))) (ty_dct diT_l) (by walk_at "va" : TVA _ _ _ _ [.str z, .int 0]) (pm_get2 (k := .inr z) (d := .int 0) diT_l)) eg) po_eqI (by rfl)) (decide_eq_true rfl))
      (fun _ => tv_one (tv_own (d := .bl true) LS (by walk_at "k") (by rfl) (by walk_at "va" : TVA _ _ _ _ [tabT C w t, .int (w : Int), .dct (cD t)]) (fun q => ⟨w, t, by rw [es], w1, w2, ct, q⟩)))) q
set_option maxHeartbeats 600000 in
theorem ok_dictright (sm : ∃ ob, base.get? sysModules = some ob) (hc : Cls F C) (hm : mg "Table" = some (.ref C)) (kL : L2.Con F C "LONGEST" (.int 12) u12) (LD : Dt P w F mg base "_law_dict" ["_law_reel_here", "_law_wide", "_law_most"] 3 spDict) (LO : Dt P w F mg base "_law_ordered" ["_law_counts_here"] 1 spOrd)
    (LS : Dt P w F mg base "_law_shows" ["_law_table", "_law_wide", "_law_counts_here"] 3 (spShows C)) (M : DtI P w F mg base C ["self", "width", "counts"] 3 (spInit C)) (ML : DtI P w F mg base C ["self", "width", "counts"] 3 (spInitL C))
    (b1 : mg "dict" = none) (b2 : mg "repr" = none) (Fn : DfN F mg "_law_dict_right" ["_law_reel_here", "_law_wide"] s_law_dict_right) : Dt P w F mg base "_law_dict_right" ["_law_reel_here", "_law_wide"] 6 (spDict5 C) := by
  refine dt_ok Fn sc_law_dict_right (fun ds σ Q E h => ?_) (fun ds σ Q E Wx h => ?_)
  · obtain ⟨p, w, N, xs, rfl, _⟩ := h
    rfl
  · obtain ⟨p, w, N, xs, rfl, w1, w2, hσ, ok, hN, q⟩ := h
    refine tk_set (i := 2) (by walk_at "sto") (te_own LD (by walk_at "k") (by rfl) ((by walk_at "va" : TVA _ _ _ _ [.ref p, .int (w : Int), .int (201 - (w : Int))]).to ⟨p, w, 201 - (w : Int), N, xs, rfl, w1, w2, by omega, by omega, hσ, ok, hN, fun u xs2 cu _ ok2 => ?_⟩))
    have qq := q xs2 ok2
    generalize su σ p (.lst xs2) = σ1 at qq ⊢
    have lu : u.length ≤ 200 := by
      have := cu.len
      have := cu.sum
      omega
    have gd : Gd 5 60001 (.dct (cD u)) := .dct (gdK_cD w2 u _ (by omega) cu.key (val_le cu))
    obtain ⟨X, hX⟩ : ∃ X, reprT (.dct (cD u)) = X := ⟨_, rfl⟩
    refine tk_cons (ts_par (i := 3) (j := 4) (by rfl) (by rfl) (by decide) (by rfl) (by rfl) (ta_cons (te_dictD (by rfl) (by walk_at "as") (te_v (by walk_at "v" : TV _ _ _ _ (.dct (cD u))) ⟨_, diT_l, fun g hg => ?_⟩))) (fun env hb hx hy => sw_two hb hx hy rfl rfl rfl rfl rfl))
    refine ta_v (TV.castS (tv_callB (by rfl) (by walk_at "as") (by walk_at "bt") (by walk_at "va" : TVA _ _ _ _ [.dct (cD u)]) (pf_reprG sm rfl gd (by decide) (by decide))) hX) (ta_nil ⟨_, _, rfl, ?_⟩)
    have ss := srtC_srtC cu.nd
    refine tk_cons (ts_par (i := 5) (j := 6) (by rfl) (by rfl) (by decide) (by rfl) (by rfl) ((tva_cons (tv_make (fs := [("letters", .int (w : Int)), ("found", .dct (cD (srtC u)))]) ML (by walk_at "k") (by rfl) hm (by walk_at "va" : TVA _ _ _ _ [.int (w : Int), .ref g]) (fun z hz q => ⟨z, g, w, u, rfl, su_same, by
        have ne : g ≠ z := fun e => by rw [← e, su_same] at hz; cases hz
        rw [su_ne ne, su_same], w1, w2, cu, by rw [su_su]; exact q⟩)) (tva_cons (tv_make (fs := [("letters", .int (w : Int)), ("found", .dct (cD (srtC u)))]) M (by walk_at "k") (by rfl) hm (tva_cons (by walk_at "v" : TV _ _ _ _ (.int (w : Int))) (tva_cons (tv_own (d := .dct (cD (srtC u))) LO (by walk_at "k") (by rfl) (by walk_at "va" : TVA _ _ _ _ [.dct (cD u)]) (fun q => ⟨u, rfl, cu.nd, by omega, q⟩)) tva_nil))
        (fun z hz q => ⟨z, w, srtC u, rfl, su_same, w1, w2, cu.srt, by rw [su_su, ss]; exact q⟩)) tva_nil)).to ⟨_, _, rfl, ?_⟩) (fun env hb hx hy => sw_two hb hx hy rfl rfl rfl rfl rfl))
    refine tk_ifF (TB.cast (tb_W (tbw_or (tb_cmp (tv_thaw (i := 3) (p := g) (kvs := cD u) (d := .str X) (by rfl) su_same trivial (TV.castS (tv_callB (by rfl) (by walk_at "as") (by walk_at "bt") (by walk_at "va" : TVA _ _ _ _ [.dct (cD u)]) (pf_reprG sm rfl gd (by decide) (by decide))) hX)) (by walk_at "v" : TV _ _ _ _ (.str X)) po_neS (by rfl)) (fun _ => tbw_or (tb_not (tb_val (tv_own (d := .bl true) LS (by walk_at "k") (by rfl) (by walk_at "va" : TVA _ _ _ _ [tabT C w (srtC u), .int (w : Int), .dct (cD u)]) (fun q => ⟨w, u, rfl, w1, w2, cu, q⟩)))) (fun _ => tbw_or1 (tb_not (tb_val (tv_own (d := .bl true) LS (by walk_at "k") (by rfl) (by walk_at "va" : TVA _ _ _ _ [tabT C w (srtC u), .int (w : Int), .dct (cD u)]) (fun q => ⟨w, u, rfl, w1, w2, cu, q⟩)))))))) (by simp)) (tk_nil ?_)
    refine tk_cons (ts_expr (te_meth0 PySem.F.plainAttrs_dict PySem.F.slot_dict_clear PySem.F.type_dict_clear ((by walk_at "v" : TV _ _ _ _ (.ref g)).to ⟨ty_dct (diT_c su_same), tm_clear su_same ?_⟩)))
    rw [su_su]
    have eb : (sOf "b").length = 1 := by decide +kernel
    refine tk_cons (ts_setItemD ((by walk_at "v" : TV _ _ _ _ (.int 1)).to ((by walk_at "v" : TV _ _ _ _ (.ref g)).to ((tv_bin (by walk_at "v" : TV _ _ _ _ (.str (sOf "b"))) (by walk_at "v" : TV _ _ _ _ (.int (w : Int))) (po_mulS (by omega) (by omega) (by rw [eb]; omega))).to ⟨g, [], .inr _, rfl, rfl, su_same, by decide, ?_⟩))))
    rw [su_su]
    refine tk_drop g ?_
    rw [sd_su hg]
    exact tk_ret (tv_and (r := true) (s := true) (tv_own (d := .bl true) LS (by walk_at "k") (by rfl) (by walk_at "va" : TVA _ _ _ _ [tabT C w (srtC u), .int (w : Int), .dct (cD u)]) (fun q => ⟨w, u, rfl, w1, w2, cu, q⟩)) (fun _ => tv_one (TV.castB (tv_cmp (tv_con (d := .int 12) hc kL (fun H => .int 12) (by walk_at "v" : TV _ _ _ _ (tabT C w (srtC u))) obX_o (by rfl)) (by walk_at "v" : TV _ _ _ _ (.int 12)) po_eqI (by rfl)) (decide_eq_true rfl)))) qq
end
end Y

/-! ### k05: the law -/
namespace Y
open PySem PySem.Spec L2 SX Z
theorem two_at {α : Type} {a b d : α} {i : Nat} (h : [a, b][i]? = some d) : (i = 0 ∧ d = a) ∨ (i = 1 ∧ d = b) := by
  match i, h with
  | 0, e => exact .inl ⟨rfl, (Option.some.inj e).symm⟩
  | 1, e => exact .inr ⟨rfl, (Option.some.inj e).symm⟩
section
variable {P : Program} {w : World} {F : PySem.W.Frag} {mg : Str → Option Value} {base : Heap} {C : Addr} {u12 : Value} {mc : Value}
set_option maxHeartbeats 600000 in
theorem ok_law (hm : mg "Table" = some (.ref C)) (gT : GlT F mg "Table" (.ref C)) (cr : ClX.CRead F C mc) (kV : ClX.CVal F C mc "LONGEST" (.int 12) u12) (L1 : Dt P w F mg base "_law_reel" ["_law_script"] 1 spReel) (L0 : Dt P w F mg base "_law_draw" ["_law_reel_here", "_law_many"] 1 spDraw)
    (L2 : Dt P w F mg base "_law_word" ["_law_reel_here", "_law_low", "_law_high"] 2 spWord) (LR : Dt P w F mg base "_law_row_right" ["_law_text", "_law_wide"] 6 (spRow5 C)) (LD : Dt P w F mg base "_law_dict_right" ["_law_reel_here", "_law_wide"] 6 (spDict5 C))
    (LS : Dt P w F mg base "_law_shows" ["_law_table", "_law_wide", "_law_counts_here"] 3 (spShows C)) (M : DtI P w F mg base C ["self", "width", "counts"] 3 (spInit C))
    {f : Addr} {fd : FuncData} (Fn : Fun F "law" "law" s_law f fd) (b1 : mg "len" = none) (b2 : mg "min" = none) (b3 : mg "range" = none) : FnG P w F mg base 7 f fd ["_law_script"] (spT F lawSpec) := by
  refine fnT_ok Fn sc_law (fun ds σ Q E h => ?_) (fun ds σ Q E Wx h => ?_)
  · obtain ⟨ns, rfl, _⟩ := h
    rfl
  · obtain ⟨ns, rfl, hl, _, q⟩ := h
    refine tk_set (i := 1) (by walk_at "sto") (te_own L1 (by walk_at "k") (by rfl) ((by walk_at "va" : TVA _ _ _ _ _).to ⟨ns, rfl, hl, fun p xs hp ok => ?_⟩))
    refine tk_cons (ts_for (t := .nm 2) (by walk_at "tgt") (ti_range1 (by rfl) (by walk_at "as") (te_v (by walk_at "v") ⟨_, rfl, by rw [List.length_map]; omega, ?_⟩)))
    refine ⟨fun i ρ1 σ2 => ∃ xs a2 a3 a4, σ2 = su σ p (.lst xs) ∧ reelOk (i * 600000) xs ∧ ρ1 = [some (.seq (ns.map DT.int)), some (.ref p), a2, a3, a4, none, none], ⟨xs, none, none, none, rfl, ok, rfl⟩, ?_, ?_⟩
    · rintro i d ρ1 σ2 hd ⟨xs, a2, a3, a4, rfl, ok, rfl⟩
      rw [List.getElem?_map] at hd
      obtain ⟨j, hj, rfl⟩ := Option.map_eq_some_iff.mp hd
      have hi : i < 7 := by
        have h1 := (List.getElem?_eq_some_iff.mp hj).1
        rw [List.length_range] at h1
        omega
      refine ⟨_, rfl, ?_⟩
      obtain ⟨hi2, hat2, g1, g2⟩ : ∃ hi : Nat, atI [DT.int 200, DT.int 14] ((j : Int) % 2) = some (.int (hi : Int)) ∧ 1 ≤ hi ∧ hi ≤ 200 := by
        have : (j : Int) % 2 = 0 ∨ (j : Int) % 2 = 1 := by omega
        rcases this with e | e
        · rw [e]; exact ⟨200, rfl, by decide, by decide⟩
        · rw [e]; exact ⟨14, rfl, by decide, by decide⟩
      refine tk_set (i := 3) (by walk_at "sto") (te_own L2 (by walk_at "k") (by rfl) ((by walk_at "va" : TVA _ _ _ _ [.ref p, .int 1, .int (hi2 : Int)]).to ⟨p, 1, hi2, _, xs, rfl, su_same, ok, by omega, by decide, g1, g2, fun r xs4 r1 r2 r3 ok4 => ?_⟩))
      rw [su_su]
      have hr : rowOk r := ⟨r1, by omega, r3⟩
      have lr : r.length ≤ 200 := hr.2.1
      refine tk_cons (ts_for (t := .nm 4) (by walk_at "tgt") (ti_range2 (by rfl) (by walk_at "as") (te_v (by walk_at "v") (te_v (by walk_at "v") ⟨_, _, rfl, rfl, by omega, ?_⟩))))
      refine ⟨fun _ ρ1 σ2 => ∃ a4, σ2 = su σ p (.lst xs4) ∧ ρ1 = [some (.seq (ns.map DT.int)), some (.ref p), some (.int (j : Int)), some (.str r), a4, none, none], ⟨_, rfl, rfl⟩, ?_, ?_⟩
      · rintro i2 d2 ρ1 σ2 hd2 ⟨a4, rfl, rfl⟩
        rw [List.getElem?_map] at hd2
        obtain ⟨j2, hj2, rfl⟩ := Option.map_eq_some_iff.mp hd2
        obtain ⟨wv2, e2, u1, u2, u3⟩ : ∃ wv : Nat, (1 : Int) + (j2 : Int) = (wv : Int) ∧ 1 ≤ wv ∧ wv ≤ 12 ∧ wv ≤ r.length := by
          have h1 := List.getElem?_eq_some_iff.mp hj2
          obtain ⟨h1, h2⟩ := h1
          rw [List.getElem_range] at h2
          rw [List.length_range] at h1
          exact ⟨1 + j2, by omega, by omega, by omega, by omega⟩
        rw [e2]
        refine ⟨_, rfl, ?_⟩
        exact tk_ifF (TB.cast (tb_not (tb_val (tv_own (d := .bl true) LR (by walk_at "k") (by rfl) (by walk_at "va" : TVA _ _ _ _ [.str r, .int (wv2 : Int)]) (fun q => ⟨r, wv2, rfl, hr, u1, u2, u3, q⟩)))) (by rfl)) (tk_nil (tk_nil ⟨_, rfl, rfl⟩))
      · rintro ρ1 σ2 ⟨a4, rfl, rfl⟩
        refine tk_cons (ts_for (t := .nm 4) (by walk_at "tgt") (ti_lst (te_lst (ta_cons (te_bin (te_v (by walk_at "v") (te_draw L0 (by walk_at "k") (by rfl) (by walk_at "va") ok4 (by omega) (by decide) (by decide) fun d1 xs5 d10 d11 ok5 => ⟨_, po_addI, ?_⟩)))))))
        refine ta_cons (te_bin (te_v (by walk_at "v") (te_draw L0 (by walk_at "k") (by rfl) (by walk_at "va") ok5 (by omega) (by decide) (by decide) fun d2 xs6 d20 d21 ok6 => ⟨_, po_addI, ta_nil ⟨by exact Nat.le_of_ble_eq_true rfl, _, rfl, ?_⟩⟩)))
        refine ⟨fun i3 ρ1 σ2 => ∃ xs a4, σ2 = su σ p (.lst xs) ∧ reelOk (i * 600000 + 1002 + i3 * 250000) xs ∧ ρ1 = [some (.seq (ns.map DT.int)), some (.ref p), some (.int (j : Int)), some (.str r), a4, none, none], ⟨xs6, _, rfl, reel_le ok6 (by omega), rfl⟩, ?_, ?_⟩
        · rintro i3 d3 ρ1 σ2 hd3 ⟨xs7, a4', rfl, ok7, rfl⟩
          obtain ⟨wv, rfl, v1, v2, v3⟩ : ∃ wv : Nat, d3 = .int (wv : Int) ∧ 1 ≤ wv ∧ wv ≤ 12 ∧ i3 < 2 := by
            rcases two_at hd3 with ⟨z, rfl⟩ | ⟨z, rfl⟩
            · exact ⟨(1 + d1).toNat, by rw [Int.toNat_of_nonneg (by omega)], by omega, by omega, by omega⟩
            · exact ⟨(1 + d2).toNat, by rw [Int.toNat_of_nonneg (by omega)], by omega, by omega, by omega⟩
          refine ⟨_, rfl, ?_⟩
          refine tk_cons (ts_if (tt_not (tt_val (te_own LD (by walk_at "k") (by rfl) ((by walk_at "va" : TVA _ _ _ _ [.ref p, .int (wv : Int)]).to ⟨p, wv, _, xs7, rfl, v1, v2, su_same, ok7, by omega, fun xs8 ok8 => ⟨true, rfl, fun z => absurd z (by decide), fun _ => tk_nil (tk_nil ?_)⟩⟩)))))
          rw [su_su]
          exact ⟨xs8, _, rfl, reel_le ok8 (by omega), rfl⟩
        · rintro ρ1 σ2 ⟨xs7, a4', rfl, ok7, rfl⟩
          exact tk_nil ⟨xs7, _, _, _, rfl, reel_le ok7 (by simp only [List.length_cons, List.length_nil]; omega), rfl⟩
    · rintro ρ1 σ2 ⟨xs, a2, a3, a4, rfl, ok, rfl⟩
      have ca : CSok 12 [] := ⟨by decide, (fun _ h => nomatch h), (fun _ h => nomatch h), by decide⟩
      have cb : CSok 1 [(sOf "q", 200)] := ⟨by decide +kernel, by decide +kernel, by decide +kernel, by decide +kernel⟩
      refine tk_cons (ts_par (i := 5) (j := 6) (by rfl) (by rfl) (by decide) (by rfl) (by rfl) ((tva_cons (tv_make (fs := [("letters", .int ((12 : Nat) : Int)), ("found", .dct (cD (srtC [])))]) M (by walk_at "k") (by rfl) hm (tva_cons (TV.castI (i := 12) (j := ((12 : Nat) : Int)) (by walk_at "v") rfl) (tva_cons tv_dict0 tva_nil)) (fun z hz q => ⟨z, 12, [], rfl, su_same, by decide, by decide, ca, by rw [su_su]; exact q⟩))
        (tva_cons (tv_make (fs := [("letters", .int ((1 : Nat) : Int)), ("found", .dct (cD (srtC [(sOf "q", 200)])))]) M (by walk_at "k") (by rfl) hm (tva_cons (TV.castI (i := 1) (j := ((1 : Nat) : Int)) (by walk_at "v") rfl) (tva_cons (tv_dictN (kvs := cD [(sOf "q", 200)]) (tvp_consS (by walk_at "v") (by walk_at "v") tvp_nil) (by decide +kernel)) tva_nil)) (fun z hz q => ⟨z, 1, _, rfl, su_same, by decide, by decide, cb, by rw [su_su]; exact q⟩)) tva_nil)).to ⟨_, _, rfl, ?_⟩) (fun env hb hx hy => sw_two hb hx hy rfl rfl rfl rfl rfl))
      refine tk_ret (TV.castB (tv_and (r := true) (TV.castB (tv_cmp (tv_cval (d := .int 12) cr kV (fun H => .int 12) (by walk_at "v" : TV _ _ _ _ (.ref C))) (by walk_at "v" : TV _ _ _ _ (.int 12)) po_eqI (by rfl)) (decide_eq_true rfl))
        (fun _ => tv_and (r := true) (s := true) (tv_own (d := .bl true) LS (by walk_at "k") (by rfl) (tva_cons (by walk_at "v" : TV _ _ _ _ (tabT C 12 (srtC []))) (tva_cons (TV.castI (i := 12) (j := ((12 : Nat) : Int)) (by walk_at "v") rfl) (tva_cons tv_dict0 tva_nil))) (fun q => ⟨12, [], rfl, by decide, by decide, ca, q⟩))
          (fun _ => tv_one (tv_own (d := .bl true) LS (by walk_at "k") (by rfl) (tva_cons (by walk_at "v" : TV _ _ _ _ (tabT C 1 (srtC [(sOf "q", 200)]))) (tva_cons (TV.castI (i := 1) (j := ((1 : Nat) : Int)) (by walk_at "v") rfl) (tva_cons (tv_dictN (kvs := cD [(sOf "q", 200)]) (tvp_consS (by walk_at "v") (by walk_at "v") tvp_nil) (by decide +kernel)) tva_nil))) (fun q => ⟨1, [(sOf "q", 200)], rfl, by decide, by decide, cb, q⟩))))) (j := true) rfl) (q _)
end
end Y

/-! ### what the top has written; the head -/
namespace Y
open PySem PySem.Spec PyProof.Rows L2 Z
theorem gl_own {C : Addr} {F : PySem.W.Frag} {mg : Str → Option Value} {x : Str} (h : mg x = some (.ref C)) : GlT F mg x (.ref C) := ⟨_, .ref C, h, rfl, fun _ => .ref C⟩
theorem all_mk {l : PySem.W.OpenLaw} {w : World} {K : PySem.W.Frag} {h : Heap} {mg : Str → Option Value} {fa f0 f1 f2 f3 f4 f5 f6 f7 f8 f9 f10 f11 f12 f13 f14 f15 f16 f17 f18 f19 f20 : Addr} (X : K.In h) (G : h.Ns mainGlobals mg) (hfa : mg "law" = some (.ref fa))
    {od0 an0 od1 an1 od2 an2 od3 an3 od4 an4 od5 an5 od6 an6 od7 an7 od8 an8 od9 an9 od10 an10 od11 an11 od12 an12 od13 an13 od14 an14 od15 an15 od16 an16 od17 an17 od18 an18 od19 an19 od20 an20 : Option Addr} {sl0 sl1 sl2 sl3 sl4 sl5 sl6 sl7 sl8 sl9 sl10 sl11 sl12 sl13 sl14 sl15 sl16 sl17 sl18 sl19 sl20 : Array (Option Value)} {oc0 kV0 dc0 pm0 cd0 ct0 oc1 kV1 dc1 pm1 cd1 ct1 oc2 kV2 dc2 pm2 cd2 ct2 oc3 kV3 dc3 pm3 cd3 ct3 oc4 kV4 dc4 pm4 cd4 ct4 oc5 kV5 dc5 pm5 cd5 ct5 oc6 kV6 dc6 pm6 cd6 ct6 oc7 kV7 dc7 pm7 cd7 ct7 oc8 kV8 dc8 pm8 cd8 ct8 oc9 kV9 dc9 pm9 cd9 ct9 oc10 kV10 dc10 pm10 cd10 ct10 oc11 kV11 dc11 pm11 cd11 ct11 oc12 kV12 dc12 pm12 cd12 ct12 oc13 kV13 dc13 pm13 cd13 ct13 oc14 kV14 dc14 pm14 cd14 ct14 oc15 kV15 dc15 pm15 cd15 ct15 oc16 kV16 dc16 pm16 cd16 ct16 oc17 kV17 dc17 pm17 cd17 ct17 oc18 kV18 dc18 pm18 cd18 ct18 oc19 kV19 dc19 pm19 cd19 ct19 oc20 kV20 dc20 pm20 cd20 ct20 : Value}
    (a0 : PySem.W.nsIn K mainGlobals "is_integer" = some (some (.ref f0))) (l0 : K.lookup f0 = some ⟨oc0, od0, .func (PySem.W.fnOf "is_integer" "is_integer" (defArgs s_is_integer) (defBody s_is_integer) (defScope s_is_integer) .none kV0 dc0 pm0 an0 cd0 ct0), sl0⟩) (c0 : PySem.W.codeIn K cd0 "is_integer" = true) (k0 : PySem.W.keepIn K (.ref f0) = true)
    (a1 : PySem.W.nsIn K mainGlobals "is_letters" = some (some (.ref f1))) (l1 : K.lookup f1 = some ⟨oc1, od1, .func (PySem.W.fnOf "is_letters" "is_letters" (defArgs s_is_letters) (defBody s_is_letters) (defScope s_is_letters) .none kV1 dc1 pm1 an1 cd1 ct1), sl1⟩) (c1 : PySem.W.codeIn K cd1 "is_letters" = true) (k1 : PySem.W.keepIn K (.ref f1) = true)
    (a2 : PySem.W.nsIn K mainGlobals "is_row" = some (some (.ref f2))) (l2 : K.lookup f2 = some ⟨oc2, od2, .func (PySem.W.fnOf "is_row" "is_row" (defArgs s_is_row) (defBody s_is_row) (defScope s_is_row) .none kV2 dc2 pm2 an2 cd2 ct2), sl2⟩) (c2 : PySem.W.codeIn K cd2 "is_row" = true) (k2 : PySem.W.keepIn K (.ref f2) = true)
    (a3 : PySem.W.nsIn K mainGlobals "check_row" = some (some (.ref f3))) (l3 : K.lookup f3 = some ⟨oc3, od3, .func (PySem.W.fnOf "check_row" "check_row" (defArgs s_check_row) (defBody s_check_row) (defScope s_check_row) .none kV3 dc3 pm3 an3 cd3 ct3), sl3⟩) (c3 : PySem.W.codeIn K cd3 "check_row" = true) (k3 : PySem.W.keepIn K (.ref f3) = true)
    (a4 : PySem.W.nsIn K mainGlobals "check_width" = some (some (.ref f4))) (l4 : K.lookup f4 = some ⟨oc4, od4, .func (PySem.W.fnOf "check_width" "check_width" (defArgs s_check_width) (defBody s_check_width) (defScope s_check_width) .none kV4 dc4 pm4 an4 cd4 ct4), sl4⟩) (c4 : PySem.W.codeIn K cd4 "check_width" = true) (k4 : PySem.W.keepIn K (.ref f4) = true)
    (a5 : PySem.W.nsIn K mainGlobals "windows_in" = some (some (.ref f5))) (l5 : K.lookup f5 = some ⟨oc5, od5, .func (PySem.W.fnOf "windows_in" "windows_in" (defArgs s_windows_in) (defBody s_windows_in) (defScope s_windows_in) .none kV5 dc5 pm5 an5 cd5 ct5), sl5⟩) (c5 : PySem.W.codeIn K cd5 "windows_in" = true) (k5 : PySem.W.keepIn K (.ref f5) = true)
    (a6 : PySem.W.nsIn K mainGlobals "counts_in" = some (some (.ref f6))) (l6 : K.lookup f6 = some ⟨oc6, od6, .func (PySem.W.fnOf "counts_in" "counts_in" (defArgs s_counts_in) (defBody s_counts_in) (defScope s_counts_in) .none kV6 dc6 pm6 an6 cd6 ct6), sl6⟩) (c6 : PySem.W.codeIn K cd6 "counts_in" = true) (k6 : PySem.W.keepIn K (.ref f6) = true)
    (a7 : PySem.W.nsIn K mainGlobals "most_windows" = some (some (.ref f7))) (l7 : K.lookup f7 = some ⟨oc7, od7, .func (PySem.W.fnOf "most_windows" "most_windows" (defArgs s_most_windows) (defBody s_most_windows) (defScope s_most_windows) .none kV7 dc7 pm7 an7 cd7 ct7), sl7⟩) (c7 : PySem.W.codeIn K cd7 "most_windows" = true) (k7 : PySem.W.keepIn K (.ref f7) = true)
    (a8 : PySem.W.nsIn K mainGlobals "is_counts" = some (some (.ref f8))) (l8 : K.lookup f8 = some ⟨oc8, od8, .func (PySem.W.fnOf "is_counts" "is_counts" (defArgs s_is_counts) (defBody s_is_counts) (defScope s_is_counts) .none kV8 dc8 pm8 an8 cd8 ct8), sl8⟩) (c8 : PySem.W.codeIn K cd8 "is_counts" = true) (k8 : PySem.W.keepIn K (.ref f8) = true)
    (a9 : PySem.W.nsIn K mainGlobals "check_table" = some (some (.ref f9))) (l9 : K.lookup f9 = some ⟨oc9, od9, .func (PySem.W.fnOf "check_table" "check_table" (defArgs s_check_table) (defBody s_check_table) (defScope s_check_table) .none kV9 dc9 pm9 an9 cd9 ct9), sl9⟩) (c9 : PySem.W.codeIn K cd9 "check_table" = true) (k9 : PySem.W.keepIn K (.ref f9) = true)
    (a10 : PySem.W.nsIn K mainGlobals "_law_reel" = some (some (.ref f10))) (l10 : K.lookup f10 = some ⟨oc10, od10, .func (PySem.W.fnOf "_law_reel" "_law_reel" (defArgs s_law_reel) (defBody s_law_reel) (defScope s_law_reel) .none kV10 dc10 pm10 an10 cd10 ct10), sl10⟩) (c10 : PySem.W.codeIn K cd10 "_law_reel" = true) (k10 : PySem.W.keepIn K (.ref f10) = true)
    (a11 : PySem.W.nsIn K mainGlobals "_law_draw" = some (some (.ref f11))) (l11 : K.lookup f11 = some ⟨oc11, od11, .func (PySem.W.fnOf "_law_draw" "_law_draw" (defArgs s_law_draw) (defBody s_law_draw) (defScope s_law_draw) .none kV11 dc11 pm11 an11 cd11 ct11), sl11⟩) (c11 : PySem.W.codeIn K cd11 "_law_draw" = true) (k11 : PySem.W.keepIn K (.ref f11) = true)
    (a12 : PySem.W.nsIn K mainGlobals "_law_word" = some (some (.ref f12))) (l12 : K.lookup f12 = some ⟨oc12, od12, .func (PySem.W.fnOf "_law_word" "_law_word" (defArgs s_law_word) (defBody s_law_word) (defScope s_law_word) .none kV12 dc12 pm12 an12 cd12 ct12), sl12⟩) (c12 : PySem.W.codeIn K cd12 "_law_word" = true) (k12 : PySem.W.keepIn K (.ref f12) = true)
    (a13 : PySem.W.nsIn K mainGlobals "_law_windows" = some (some (.ref f13))) (l13 : K.lookup f13 = some ⟨oc13, od13, .func (PySem.W.fnOf "_law_windows" "_law_windows" (defArgs s_law_windows) (defBody s_law_windows) (defScope s_law_windows) .none kV13 dc13 pm13 an13 cd13 ct13), sl13⟩) (c13 : PySem.W.codeIn K cd13 "_law_windows" = true) (k13 : PySem.W.keepIn K (.ref f13) = true)
    (a14 : PySem.W.nsIn K mainGlobals "_law_counts" = some (some (.ref f14))) (l14 : K.lookup f14 = some ⟨oc14, od14, .func (PySem.W.fnOf "_law_counts" "_law_counts" (defArgs s_law_counts) (defBody s_law_counts) (defScope s_law_counts) .none kV14 dc14 pm14 an14 cd14 ct14), sl14⟩) (c14 : PySem.W.codeIn K cd14 "_law_counts" = true) (k14 : PySem.W.keepIn K (.ref f14) = true)
    (a15 : PySem.W.nsIn K mainGlobals "_law_dict" = some (some (.ref f15))) (l15 : K.lookup f15 = some ⟨oc15, od15, .func (PySem.W.fnOf "_law_dict" "_law_dict" (defArgs s_law_dict) (defBody s_law_dict) (defScope s_law_dict) .none kV15 dc15 pm15 an15 cd15 ct15), sl15⟩) (c15 : PySem.W.codeIn K cd15 "_law_dict" = true) (k15 : PySem.W.keepIn K (.ref f15) = true)
    (a16 : PySem.W.nsIn K mainGlobals "_law_ordered" = some (some (.ref f16))) (l16 : K.lookup f16 = some ⟨oc16, od16, .func (PySem.W.fnOf "_law_ordered" "_law_ordered" (defArgs s_law_ordered) (defBody s_law_ordered) (defScope s_law_ordered) .none kV16 dc16 pm16 an16 cd16 ct16), sl16⟩) (c16 : PySem.W.codeIn K cd16 "_law_ordered" = true) (k16 : PySem.W.keepIn K (.ref f16) = true)
    (a17 : PySem.W.nsIn K mainGlobals "_law_shows" = some (some (.ref f17))) (l17 : K.lookup f17 = some ⟨oc17, od17, .func (PySem.W.fnOf "_law_shows" "_law_shows" (defArgs s_law_shows) (defBody s_law_shows) (defScope s_law_shows) .none kV17 dc17 pm17 an17 cd17 ct17), sl17⟩) (c17 : PySem.W.codeIn K cd17 "_law_shows" = true) (k17 : PySem.W.keepIn K (.ref f17) = true)
    (a18 : PySem.W.nsIn K mainGlobals "_law_row_right" = some (some (.ref f18))) (l18 : K.lookup f18 = some ⟨oc18, od18, .func (PySem.W.fnOf "_law_row_right" "_law_row_right" (defArgs s_law_row_right) (defBody s_law_row_right) (defScope s_law_row_right) .none kV18 dc18 pm18 an18 cd18 ct18), sl18⟩) (c18 : PySem.W.codeIn K cd18 "_law_row_right" = true) (k18 : PySem.W.keepIn K (.ref f18) = true)
    (a19 : PySem.W.nsIn K mainGlobals "_law_dict_right" = some (some (.ref f19))) (l19 : K.lookup f19 = some ⟨oc19, od19, .func (PySem.W.fnOf "_law_dict_right" "_law_dict_right" (defArgs s_law_dict_right) (defBody s_law_dict_right) (defScope s_law_dict_right) .none kV19 dc19 pm19 an19 cd19 ct19), sl19⟩) (c19 : PySem.W.codeIn K cd19 "_law_dict_right" = true) (k19 : PySem.W.keepIn K (.ref f19) = true)
    (a20 : PySem.W.nsIn K mainGlobals "law" = some (some (.ref f20))) (l20 : K.lookup f20 = some ⟨oc20, od20, .func (PySem.W.fnOf "law" "law" (defArgs s_law) (defBody s_law) (defScope s_law) .none kV20 dc20 pm20 an20 cd20 ct20), sl20⟩) (c20 : PySem.W.codeIn K cd20 "law" = true) (k20 : PySem.W.keepIn K (.ref f20) = true)
    {t0 : Tok} (qc0 : PySem.W.nsIn K mainGlobals "LETTERS" = some (some (.str "abcdefghijklmnopqrstuvwxyz" t0)))
    {t1 : Tok} (qc1 : PySem.W.nsIn K mainGlobals "MOST_LETTERS" = some (some (.int 200 t1)))
    {t2 : Tok} (qc2 : PySem.W.nsIn K mainGlobals "WIDEST" = some (some (.int 12 t2)))
    (z0 : PySem.W.nsIn K mainGlobals "isinstance" = some none)
    (z1 : PySem.W.nsIn K mainGlobals "len" = some none)
    (z2 : PySem.W.nsIn K mainGlobals "all" = some none)
    (z3 : PySem.W.nsIn K mainGlobals "str" = some none)
    (z4 : PySem.W.nsIn K mainGlobals "int" = some none)
    (z5 : PySem.W.nsIn K mainGlobals "bool" = some none)
    (z6 : PySem.W.nsIn K mainGlobals "range" = some none)
    (z7 : PySem.W.nsIn K mainGlobals "min" = some none)
    (z8 : PySem.W.nsIn K mainGlobals "max" = some none)
    (z9 : PySem.W.nsIn K mainGlobals "repr" = some none)
    (z10 : PySem.W.nsIn K mainGlobals "list" = some none)
    (z11 : PySem.W.nsIn K mainGlobals "dict" = some none)
    (z12 : PySem.W.nsIn K mainGlobals "sum" = some none)
    (z13 : PySem.W.nsIn K mainGlobals "sorted" = some none)
    (z14 : PySem.W.nsIn K mainGlobals "set" = some none)
    {C0 : Addr} (u0 : PySem.W.nsIn K mainGlobals "Table" = some (some (.ref C0)))
    (up0 : PySem.W.plainGet K C0 Str.empty = true)
    (uh0 : PySem.W.hasDictIn K C0 = true)
    (uo0 : PySem.W.plainOver K C0 = true)
    (us0 : PySem.W.findIn K (.ref C0) "__setattr__" = some (some (.builtin "object.__setattr__")))
    (ua0 : PySem.W.findIn K (.ref C0) "__class__" = some (some (.builtin "object.__class__")))
    (ut0 : PySem.W.mroIn K C0 (.type "object") = some true)
    (uk0 : PySem.W.keepIn K (.ref C0) = true)
    (uw0 : PySem.W.ownB K C0 = true)
    (ur0 : PySem.W.readsIn K C0 (.type "type") = true) (ug0 : PySem.W.specialIn K (.ref C0) "__getattribute__" = some (some (.builtin "type.__getattribute__")))
    (uf0_0 : PySem.W.findIn K (.ref C0) "letters" = some none)
    (uf0_1 : PySem.W.findIn K (.ref C0) "found" = some none)
    {tk0 : Tok} (ka0 : PySem.W.findIn K (.ref C0) "LONGEST" = some (some (.int 12 tk0))) (kb0 : PySem.W.specialIn K (.int 12 tk0) "__get__" = some none) (kd0 : PySem.W.findCls K (.ref C0) (.type "type") "LONGEST" = some (.val (.int 12 tk0)))
    (oc1 : PySem.W.specialIn K (.builtin "object.__class__") "__get__" = some (some (.builtin "getset_descriptor.__get__"))) (oc2 : PySem.W.takesIn K (.builtin "object.__class__") = some true)
    {mf0 : Addr} {mod0 man0 : Option Addr} {msl0 : Array (Option Value)} {moc0 mkV0 mdc0 mpm0 mcd0 mct0 : Value}
    (ma0 : PySem.W.findIn K (.ref C0) "__init__" = some (some (.ref mf0))) (mb0 : PySem.W.makesIn K C0 = true) (mc0 : PySem.W.isFn K (.ref mf0) = true)
    (ml0 : K.lookup mf0 = some ⟨moc0, mod0, .func (PySem.W.fnOf "__init__" "Table.__init__" (defArgs s_Table_init) (defBody s_Table_init) (defScope s_Table_init) .none mkV0 mdc0 mpm0 man0 mcd0 mct0), msl0⟩) (mg0 : PySem.W.codeIn K mcd0 "Table.__init__" = true) (mk0 : PySem.W.keepIn K (.ref mf0) = true)
    {mf1 : Addr} {mod1 man1 : Option Addr} {msl1 : Array (Option Value)} {moc1 mkV1 mdc1 mpm1 mcd1 mct1 : Value}
    {mp1 : Addr} {mre1 : List Value}
    (ma1 : PySem.W.findCls K (.ref C0) (.type "type") "of" = some (.get (.builtin "classmethod.__get__") (.ref mp1) .none (.ref C0))) (mb1 : PySem.W.recIn K mp1 "classmethod" = some (.ref mf1 :: mre1)) (mc1 : PySem.W.fnIn K mf1 = true)
    (ml1 : K.lookup mf1 = some ⟨moc1, mod1, .func (PySem.W.fnOf "of" "Table.of" (defArgs s_Table_of) (defBody s_Table_of) (defScope s_Table_of) .none mkV1 mdc1 mpm1 man1 mcd1 mct1), msl1⟩) (mg1 : PySem.W.codeIn K mcd1 "Table.of" = true) (mk1 : PySem.W.keepIn K (.ref mf1) = true)
    {mf2 : Addr} {mod2 man2 : Option Addr} {msl2 : Array (Option Value)} {moc2 mkV2 mdc2 mpm2 mcd2 mct2 : Value}
    {mp2 : Addr} {mre2 : List Value}
    (ma2 : PySem.W.findIn K (.ref C0) "width" = some (some (.ref mp2))) (mb2 : PySem.W.specialIn K (.ref mp2) "__get__" = some (some (.builtin "property.__get__"))) (mc2 : PySem.W.takesIn K (.ref mp2) = some true) (md2 : PySem.W.recIn K mp2 "property" = some (.ref mf2 :: mre2))
    (ml2 : K.lookup mf2 = some ⟨moc2, mod2, .func (PySem.W.fnOf "width" "Table.width" (defArgs s_Table_width) (defBody s_Table_width) (defScope s_Table_width) .none mkV2 mdc2 mpm2 man2 mcd2 mct2), msl2⟩) (mg2 : PySem.W.codeIn K mcd2 "Table.width" = true) (mk2 : PySem.W.keepIn K (.ref mf2) = true)
    {mf3 : Addr} {mod3 man3 : Option Addr} {msl3 : Array (Option Value)} {moc3 mkV3 mdc3 mpm3 mcd3 mct3 : Value}
    {mp3 : Addr} {mre3 : List Value}
    (ma3 : PySem.W.findIn K (.ref C0) "counts" = some (some (.ref mp3))) (mb3 : PySem.W.specialIn K (.ref mp3) "__get__" = some (some (.builtin "property.__get__"))) (mc3 : PySem.W.takesIn K (.ref mp3) = some true) (md3 : PySem.W.recIn K mp3 "property" = some (.ref mf3 :: mre3))
    (ml3 : K.lookup mf3 = some ⟨moc3, mod3, .func (PySem.W.fnOf "counts" "Table.counts" (defArgs s_Table_counts) (defBody s_Table_counts) (defScope s_Table_counts) .none mkV3 mdc3 mpm3 man3 mcd3 mct3), msl3⟩) (mg3 : PySem.W.codeIn K mcd3 "Table.counts" = true) (mk3 : PySem.W.keepIn K (.ref mf3) = true)
    {mf4 : Addr} {mod4 man4 : Option Addr} {msl4 : Array (Option Value)} {moc4 mkV4 mdc4 mpm4 mcd4 mct4 : Value}
    {mp4 : Addr} {mre4 : List Value}
    (ma4 : PySem.W.findIn K (.ref C0) "total" = some (some (.ref mp4))) (mb4 : PySem.W.specialIn K (.ref mp4) "__get__" = some (some (.builtin "property.__get__"))) (mc4 : PySem.W.takesIn K (.ref mp4) = some true) (md4 : PySem.W.recIn K mp4 "property" = some (.ref mf4 :: mre4))
    (ml4 : K.lookup mf4 = some ⟨moc4, mod4, .func (PySem.W.fnOf "total" "Table.total" (defArgs s_Table_total) (defBody s_Table_total) (defScope s_Table_total) .none mkV4 mdc4 mpm4 man4 mcd4 mct4), msl4⟩) (mg4 : PySem.W.codeIn K mcd4 "Table.total" = true) (mk4 : PySem.W.keepIn K (.ref mf4) = true)
    {mf5 : Addr} {mod5 man5 : Option Addr} {msl5 : Array (Option Value)} {moc5 mkV5 mdc5 mpm5 mcd5 mct5 : Value}
    (ma5 : PySem.W.findIn K (.ref C0) "times_of" = some (some (.ref mf5))) (mb5 : PySem.W.isFn K (.ref mf5) = true)
    (ml5 : K.lookup mf5 = some ⟨moc5, mod5, .func (PySem.W.fnOf "times_of" "Table.times_of" (defArgs s_Table_times_of) (defBody s_Table_times_of) (defScope s_Table_times_of) .none mkV5 mdc5 mpm5 man5 mcd5 mct5), msl5⟩) (mg5 : PySem.W.codeIn K mcd5 "Table.times_of" = true) (mk5 : PySem.W.keepIn K (.ref mf5) = true)
    {mf6 : Addr} {mod6 man6 : Option Addr} {msl6 : Array (Option Value)} {moc6 mkV6 mdc6 mpm6 mcd6 mct6 : Value}
    (ma6 : PySem.W.findIn K (.ref C0) "check_other" = some (some (.ref mf6))) (mb6 : PySem.W.isFn K (.ref mf6) = true)
    (ml6 : K.lookup mf6 = some ⟨moc6, mod6, .func (PySem.W.fnOf "check_other" "Table.check_other" (defArgs s_Table_check_other) (defBody s_Table_check_other) (defScope s_Table_check_other) .none mkV6 mdc6 mpm6 man6 mcd6 mct6), msl6⟩) (mg6 : PySem.W.codeIn K mcd6 "Table.check_other" = true) (mk6 : PySem.W.keepIn K (.ref mf6) = true)
    {mf7 : Addr} {mod7 man7 : Option Addr} {msl7 : Array (Option Value)} {moc7 mkV7 mdc7 mpm7 mcd7 mct7 : Value}
    (ma7 : PySem.W.findIn K (.ref C0) "check_size" = some (some (.ref mf7))) (mb7 : PySem.W.isFn K (.ref mf7) = true)
    (ml7 : K.lookup mf7 = some ⟨moc7, mod7, .func (PySem.W.fnOf "check_size" "Table.check_size" (defArgs s_Table_check_size) (defBody s_Table_check_size) (defScope s_Table_check_size) .none mkV7 mdc7 mpm7 man7 mcd7 mct7), msl7⟩) (mg7 : PySem.W.codeIn K mcd7 "Table.check_size" = true) (mk7 : PySem.W.keepIn K (.ref mf7) = true)
    {mf8 : Addr} {mod8 man8 : Option Addr} {msl8 : Array (Option Value)} {moc8 mkV8 mdc8 mpm8 mcd8 mct8 : Value}
    (ma8 : PySem.W.findIn K (.ref C0) "__add__" = some (some (.ref mf8))) (mb8 : PySem.W.isFn K (.ref mf8) = true)
    (ml8 : K.lookup mf8 = some ⟨moc8, mod8, .func (PySem.W.fnOf "__add__" "Table.__add__" (defArgs s_Table_add) (defBody s_Table_add) (defScope s_Table_add) .none mkV8 mdc8 mpm8 man8 mcd8 mct8), msl8⟩) (mg8 : PySem.W.codeIn K mcd8 "Table.__add__" = true) (mk8 : PySem.W.keepIn K (.ref mf8) = true)
    {mf9 : Addr} {mod9 man9 : Option Addr} {msl9 : Array (Option Value)} {moc9 mkV9 mdc9 mpm9 mcd9 mct9 : Value}
    (ma9 : PySem.W.findIn K (.ref C0) "__sub__" = some (some (.ref mf9))) (mb9 : PySem.W.isFn K (.ref mf9) = true)
    (ml9 : K.lookup mf9 = some ⟨moc9, mod9, .func (PySem.W.fnOf "__sub__" "Table.__sub__" (defArgs s_Table_sub) (defBody s_Table_sub) (defScope s_Table_sub) .none mkV9 mdc9 mpm9 man9 mcd9 mct9), msl9⟩) (mg9 : PySem.W.codeIn K mcd9 "Table.__sub__" = true) (mk9 : PySem.W.keepIn K (.ref mf9) = true)
    {mf10 : Addr} {mod10 man10 : Option Addr} {msl10 : Array (Option Value)} {moc10 mkV10 mdc10 mpm10 mcd10 mct10 : Value}
    (ma10 : PySem.W.findIn K (.ref C0) "__mul__" = some (some (.ref mf10))) (mb10 : PySem.W.isFn K (.ref mf10) = true)
    (ml10 : K.lookup mf10 = some ⟨moc10, mod10, .func (PySem.W.fnOf "__mul__" "Table.__mul__" (defArgs s_Table_mul) (defBody s_Table_mul) (defScope s_Table_mul) .none mkV10 mdc10 mpm10 man10 mcd10 mct10), msl10⟩) (mg10 : PySem.W.codeIn K mcd10 "Table.__mul__" = true) (mk10 : PySem.W.keepIn K (.ref mf10) = true)
    {mf11 : Addr} {mod11 man11 : Option Addr} {msl11 : Array (Option Value)} {moc11 mkV11 mdc11 mpm11 mcd11 mct11 : Value}
    (ma11 : PySem.W.findIn K (.ref C0) "__invert__" = some (some (.ref mf11))) (mb11 : PySem.W.isFn K (.ref mf11) = true)
    (ml11 : K.lookup mf11 = some ⟨moc11, mod11, .func (PySem.W.fnOf "__invert__" "Table.__invert__" (defArgs s_Table_invert) (defBody s_Table_invert) (defScope s_Table_invert) .none mkV11 mdc11 mpm11 man11 mcd11 mct11), msl11⟩) (mg11 : PySem.W.codeIn K mcd11 "Table.__invert__" = true) (mk11 : PySem.W.keepIn K (.ref mf11) = true)
    {mf12 : Addr} {mod12 man12 : Option Addr} {msl12 : Array (Option Value)} {moc12 mkV12 mdc12 mpm12 mcd12 mct12 : Value}
    (ma12 : PySem.W.findIn K (.ref C0) "__contains__" = some (some (.ref mf12))) (mb12 : PySem.W.isFn K (.ref mf12) = true)
    (ml12 : K.lookup mf12 = some ⟨moc12, mod12, .func (PySem.W.fnOf "__contains__" "Table.__contains__" (defArgs s_Table_contains) (defBody s_Table_contains) (defScope s_Table_contains) .none mkV12 mdc12 mpm12 man12 mcd12 mct12), msl12⟩) (mg12 : PySem.W.codeIn K mcd12 "Table.__contains__" = true) (mk12 : PySem.W.keepIn K (.ref mf12) = true)
    {mf13 : Addr} {mod13 man13 : Option Addr} {msl13 : Array (Option Value)} {moc13 mkV13 mdc13 mpm13 mcd13 mct13 : Value}
    (ma13 : PySem.W.findIn K (.ref C0) "__len__" = some (some (.ref mf13))) (mb13 : PySem.W.isFn K (.ref mf13) = true)
    (ml13 : K.lookup mf13 = some ⟨moc13, mod13, .func (PySem.W.fnOf "__len__" "Table.__len__" (defArgs s_Table_len) (defBody s_Table_len) (defScope s_Table_len) .none mkV13 mdc13 mpm13 man13 mcd13 mct13), msl13⟩) (mg13 : PySem.W.codeIn K mcd13 "Table.__len__" = true) (mk13 : PySem.W.keepIn K (.ref mf13) = true)
    {mf14 : Addr} {mod14 man14 : Option Addr} {msl14 : Array (Option Value)} {moc14 mkV14 mdc14 mpm14 mcd14 mct14 : Value}
    (ma14 : PySem.W.findIn K (.ref C0) "__eq__" = some (some (.ref mf14))) (mb14 : PySem.W.isFn K (.ref mf14) = true)
    (ml14 : K.lookup mf14 = some ⟨moc14, mod14, .func (PySem.W.fnOf "__eq__" "Table.__eq__" (defArgs s_Table_eq) (defBody s_Table_eq) (defScope s_Table_eq) .none mkV14 mdc14 mpm14 man14 mcd14 mct14), msl14⟩) (mg14 : PySem.W.codeIn K mcd14 "Table.__eq__" = true) (mk14 : PySem.W.keepIn K (.ref mf14) = true)
    {mf15 : Addr} {mod15 man15 : Option Addr} {msl15 : Array (Option Value)} {moc15 mkV15 mdc15 mpm15 mcd15 mct15 : Value}
    (ma15 : PySem.W.findIn K (.ref C0) "__call__" = some (some (.ref mf15))) (mb15 : PySem.W.isFn K (.ref mf15) = true)
    (ml15 : K.lookup mf15 = some ⟨moc15, mod15, .func (PySem.W.fnOf "__call__" "Table.__call__" (defArgs s_Table_call) (defBody s_Table_call) (defScope s_Table_call) .none mkV15 mdc15 mpm15 man15 mcd15 mct15), msl15⟩) (mg15 : PySem.W.codeIn K mcd15 "Table.__call__" = true) (mk15 : PySem.W.keepIn K (.ref mf15) = true)
    : ∃ fd : FuncData, (∀ (s : Shared) (v : Value), BindsTo s fd ⟨[v], []⟩ [("_law_script", v)]) ∧ ∀ base : Heap, K.In base → base.Ns mainGlobals mg → (∃ ob, base.get? sysModules = some ob) → FnG l.prog w K mg base 7 fa fd ["_law_script"] (spT K lawSpec) := by
  have e := hfa.symm.trans (PySem.W.mg_of X G a20)
  cases e
  have F_is_integer := fun_mk (st := s_is_integer) l0 c0 k0
  have D_is_integer : DfN K mg "is_integer" ["value", "low", "high"] s_is_integer := ⟨_, _, PySem.W.mg_of X G a0, F_is_integer, F_is_integer.binds (ps := ["value", "low", "high"]) fun _ _ _ _ _ _ us hl => match us, hl with | [_, _, _], _ => rfl⟩
  have F_is_letters := fun_mk (st := s_is_letters) l1 c1 k1
  have D_is_letters : DfN K mg "is_letters" ["value", "low", "high"] s_is_letters := ⟨_, _, PySem.W.mg_of X G a1, F_is_letters, F_is_letters.binds (ps := ["value", "low", "high"]) fun _ _ _ _ _ _ us hl => match us, hl with | [_, _, _], _ => rfl⟩
  have F_is_row := fun_mk (st := s_is_row) l2 c2 k2
  have D_is_row : DfN K mg "is_row" ["value"] s_is_row := ⟨_, _, PySem.W.mg_of X G a2, F_is_row, F_is_row.binds (ps := ["value"]) fun _ _ _ _ _ _ us hl => match us, hl with | [_], _ => rfl⟩
  have F_check_row := fun_mk (st := s_check_row) l3 c3 k3
  have D_check_row : DfN K mg "check_row" ["value"] s_check_row := ⟨_, _, PySem.W.mg_of X G a3, F_check_row, F_check_row.binds (ps := ["value"]) fun _ _ _ _ _ _ us hl => match us, hl with | [_], _ => rfl⟩
  have F_check_width := fun_mk (st := s_check_width) l4 c4 k4
  have D_check_width : DfN K mg "check_width" ["row", "value"] s_check_width := ⟨_, _, PySem.W.mg_of X G a4, F_check_width, F_check_width.binds (ps := ["row", "value"]) fun _ _ _ _ _ _ us hl => match us, hl with | [_, _], _ => rfl⟩
  have F_windows_in := fun_mk (st := s_windows_in) l5 c5 k5
  have D_windows_in : DfN K mg "windows_in" ["row", "width"] s_windows_in := ⟨_, _, PySem.W.mg_of X G a5, F_windows_in, F_windows_in.binds (ps := ["row", "width"]) fun _ _ _ _ _ _ us hl => match us, hl with | [_, _], _ => rfl⟩
  have F_counts_in := fun_mk (st := s_counts_in) l6 c6 k6
  have D_counts_in : DfN K mg "counts_in" ["row", "width"] s_counts_in := ⟨_, _, PySem.W.mg_of X G a6, F_counts_in, F_counts_in.binds (ps := ["row", "width"]) fun _ _ _ _ _ _ us hl => match us, hl with | [_, _], _ => rfl⟩
  have F_most_windows := fun_mk (st := s_most_windows) l7 c7 k7
  have D_most_windows : DfN K mg "most_windows" ["width"] s_most_windows := ⟨_, _, PySem.W.mg_of X G a7, F_most_windows, F_most_windows.binds (ps := ["width"]) fun _ _ _ _ _ _ us hl => match us, hl with | [_], _ => rfl⟩
  have F_is_counts := fun_mk (st := s_is_counts) l8 c8 k8
  have D_is_counts : DfN K mg "is_counts" ["width", "value"] s_is_counts := ⟨_, _, PySem.W.mg_of X G a8, F_is_counts, F_is_counts.binds (ps := ["width", "value"]) fun _ _ _ _ _ _ us hl => match us, hl with | [_, _], _ => rfl⟩
  have F_check_table := fun_mk (st := s_check_table) l9 c9 k9
  have D_check_table : DfN K mg "check_table" ["value"] s_check_table := ⟨_, _, PySem.W.mg_of X G a9, F_check_table, F_check_table.binds (ps := ["value"]) fun _ _ _ _ _ _ us hl => match us, hl with | [_], _ => rfl⟩
  have F_law_reel := fun_mk (st := s_law_reel) l10 c10 k10
  have D_law_reel : DfN K mg "_law_reel" ["_law_script"] s_law_reel := ⟨_, _, PySem.W.mg_of X G a10, F_law_reel, F_law_reel.binds (ps := ["_law_script"]) fun _ _ _ _ _ _ us hl => match us, hl with | [_], _ => rfl⟩
  have F_law_draw := fun_mk (st := s_law_draw) l11 c11 k11
  have D_law_draw : DfN K mg "_law_draw" ["_law_reel_here", "_law_many"] s_law_draw := ⟨_, _, PySem.W.mg_of X G a11, F_law_draw, F_law_draw.binds (ps := ["_law_reel_here", "_law_many"]) fun _ _ _ _ _ _ us hl => match us, hl with | [_, _], _ => rfl⟩
  have F_law_word := fun_mk (st := s_law_word) l12 c12 k12
  have D_law_word : DfN K mg "_law_word" ["_law_reel_here", "_law_low", "_law_high"] s_law_word := ⟨_, _, PySem.W.mg_of X G a12, F_law_word, F_law_word.binds (ps := ["_law_reel_here", "_law_low", "_law_high"]) fun _ _ _ _ _ _ us hl => match us, hl with | [_, _, _], _ => rfl⟩
  have F_law_windows := fun_mk (st := s_law_windows) l13 c13 k13
  have D_law_windows : DfN K mg "_law_windows" ["_law_text", "_law_wide"] s_law_windows := ⟨_, _, PySem.W.mg_of X G a13, F_law_windows, F_law_windows.binds (ps := ["_law_text", "_law_wide"]) fun _ _ _ _ _ _ us hl => match us, hl with | [_, _], _ => rfl⟩
  have F_law_counts := fun_mk (st := s_law_counts) l14 c14 k14
  have D_law_counts : DfN K mg "_law_counts" ["_law_windows_here"] s_law_counts := ⟨_, _, PySem.W.mg_of X G a14, F_law_counts, F_law_counts.binds (ps := ["_law_windows_here"]) fun _ _ _ _ _ _ us hl => match us, hl with | [_], _ => rfl⟩
  have F_law_dict := fun_mk (st := s_law_dict) l15 c15 k15
  have D_law_dict : DfN K mg "_law_dict" ["_law_reel_here", "_law_wide", "_law_most"] s_law_dict := ⟨_, _, PySem.W.mg_of X G a15, F_law_dict, F_law_dict.binds (ps := ["_law_reel_here", "_law_wide", "_law_most"]) fun _ _ _ _ _ _ us hl => match us, hl with | [_, _, _], _ => rfl⟩
  have F_law_ordered := fun_mk (st := s_law_ordered) l16 c16 k16
  have D_law_ordered : DfN K mg "_law_ordered" ["_law_counts_here"] s_law_ordered := ⟨_, _, PySem.W.mg_of X G a16, F_law_ordered, F_law_ordered.binds (ps := ["_law_counts_here"]) fun _ _ _ _ _ _ us hl => match us, hl with | [_], _ => rfl⟩
  have F_law_shows := fun_mk (st := s_law_shows) l17 c17 k17
  have D_law_shows : DfN K mg "_law_shows" ["_law_table", "_law_wide", "_law_counts_here"] s_law_shows := ⟨_, _, PySem.W.mg_of X G a17, F_law_shows, F_law_shows.binds (ps := ["_law_table", "_law_wide", "_law_counts_here"]) fun _ _ _ _ _ _ us hl => match us, hl with | [_, _, _], _ => rfl⟩
  have F_law_row_right := fun_mk (st := s_law_row_right) l18 c18 k18
  have D_law_row_right : DfN K mg "_law_row_right" ["_law_text", "_law_wide"] s_law_row_right := ⟨_, _, PySem.W.mg_of X G a18, F_law_row_right, F_law_row_right.binds (ps := ["_law_text", "_law_wide"]) fun _ _ _ _ _ _ us hl => match us, hl with | [_, _], _ => rfl⟩
  have F_law_dict_right := fun_mk (st := s_law_dict_right) l19 c19 k19
  have D_law_dict_right : DfN K mg "_law_dict_right" ["_law_reel_here", "_law_wide"] s_law_dict_right := ⟨_, _, PySem.W.mg_of X G a19, F_law_dict_right, F_law_dict_right.binds (ps := ["_law_reel_here", "_law_wide"]) fun _ _ _ _ _ _ us hl => match us, hl with | [_, _], _ => rfl⟩
  have F_law := fun_mk (st := s_law) l20 c20 k20
  have D_law : DfN K mg "law" ["_law_script"] s_law := ⟨_, _, PySem.W.mg_of X G a20, F_law, F_law.binds (ps := ["_law_script"]) fun _ _ _ _ _ _ us hl => match us, hl with | [_], _ => rfl⟩
  have b_isinstance : mg "isinstance" = none := PySem.W.mg_none_of X G z0
  have b_len : mg "len" = none := PySem.W.mg_none_of X G z1
  have b_all : mg "all" = none := PySem.W.mg_none_of X G z2
  have b_str : mg "str" = none := PySem.W.mg_none_of X G z3
  have b_int : mg "int" = none := PySem.W.mg_none_of X G z4
  have b_bool : mg "bool" = none := PySem.W.mg_none_of X G z5
  have b_range : mg "range" = none := PySem.W.mg_none_of X G z6
  have b_min : mg "min" = none := PySem.W.mg_none_of X G z7
  have b_max : mg "max" = none := PySem.W.mg_none_of X G z8
  have b_repr : mg "repr" = none := PySem.W.mg_none_of X G z9
  have b_list : mg "list" = none := PySem.W.mg_none_of X G z10
  have b_dict : mg "dict" = none := PySem.W.mg_none_of X G z11
  have b_sum : mg "sum" = none := PySem.W.mg_none_of X G z12
  have b_sorted : mg "sorted" = none := PySem.W.mg_none_of X G z13
  have b_set : mg "set" = none := PySem.W.mg_none_of X G z14
  have g_LETTERS : GlT K mg "LETTERS" (.str (sOf "abcdefghijklmnopqrstuvwxyz")) := gl_str (PySem.W.mg_of X G qc0)
  have g_MOST_LETTERS : GlT K mg "MOST_LETTERS" (.int 200) := gl_int (PySem.W.mg_of X G qc1)
  have g_WIDEST : GlT K mg "WIDEST" (.int 12) := gl_int (PySem.W.mg_of X G qc2)
  have m_Table : mg "Table" = some (.ref C0) := PySem.W.mg_of X G u0
  have gc_Table : GlT K mg "Table" (.ref C0) := gl_own (PySem.W.mg_of X G u0)
  have cl_Table : Cls K C0 := ⟨up0, uh0, uo0, us0⟩
  have ty_Table : TyC K C0 := ⟨ua0, oc1, oc2, ut0⟩
  have ow_Table := uw0
  have cr_Table : ClX.CRead K C0 (.type "type") := ⟨ur0, ug0⟩
  have na_Table_letters : NoAttr K C0 "letters" := uf0_0
  have na_Table_found : NoAttr K C0 "found" := uf0_1
  have kc_Table_LONGEST : L2.Con K C0 "LONGEST" (.int 12) (.int 12 tk0) := ⟨ka0, ⟨_, rfl⟩, kb0, by decide +kernel⟩
  have kv_Table_LONGEST : ClX.CVal K C0 (.type "type") "LONGEST" (.int 12) (.int 12 tk0) := ⟨kd0, ⟨_, rfl⟩⟩
  have F_Table_init := fun_mk (st := s_Table_init) ml0 mg0 mk0
  have B_Table_init : Binds K _ ["self", "width", "counts"] [] := F_Table_init.binds (ps := ["self", "width", "counts"]) fun _ _ _ _ _ _ us hl => match us, hl with | [_, _, _], _ => rfl
  have M_Table_init : Mk K C0 mf0 := ⟨mb0, ma0, mc0, uk0⟩
  have F_Table_of := fun_mk (st := s_Table_of) ml1 mg1 mk1
  have B_Table_of : Binds K _ ["cls", "row", "width"] [] := F_Table_of.binds (ps := ["cls", "row", "width"]) fun _ _ _ _ _ _ us hl => match us, hl with | [_, _, _], _ => rfl
  have M_Table_of : ClX.CMet K C0 (.type "type") "of" mp1 mf1 := ⟨ma1, ⟨_, mb1⟩, mc1⟩
  have F_Table_width := fun_mk (st := s_Table_width) ml2 mg2 mk2
  have B_Table_width : Binds K _ ["self"] [] := F_Table_width.binds (ps := ["self"]) fun _ _ _ _ _ _ us hl => match us, hl with | [_], _ => rfl
  have M_Table_width : PropOf K C0 "width" mp2 mf2 := ⟨ma2, mb2, mc2, _, md2⟩
  have F_Table_counts := fun_mk (st := s_Table_counts) ml3 mg3 mk3
  have B_Table_counts : Binds K _ ["self"] [] := F_Table_counts.binds (ps := ["self"]) fun _ _ _ _ _ _ us hl => match us, hl with | [_], _ => rfl
  have M_Table_counts : PropOf K C0 "counts" mp3 mf3 := ⟨ma3, mb3, mc3, _, md3⟩
  have F_Table_total := fun_mk (st := s_Table_total) ml4 mg4 mk4
  have B_Table_total : Binds K _ ["self"] [] := F_Table_total.binds (ps := ["self"]) fun _ _ _ _ _ _ us hl => match us, hl with | [_], _ => rfl
  have M_Table_total : PropOf K C0 "total" mp4 mf4 := ⟨ma4, mb4, mc4, _, md4⟩
  have F_Table_times_of := fun_mk (st := s_Table_times_of) ml5 mg5 mk5
  have B_Table_times_of : Binds K _ ["self", "window"] [] := F_Table_times_of.binds (ps := ["self", "window"]) fun _ _ _ _ _ _ us hl => match us, hl with | [_, _], _ => rfl
  have M_Table_times_of : Meth K C0 "times_of" mf5 := ⟨ma5, mb5, mk5⟩
  have F_Table_check_other := fun_mk (st := s_Table_check_other) ml6 mg6 mk6
  have B_Table_check_other : Binds K _ ["self", "value"] [] := F_Table_check_other.binds (ps := ["self", "value"]) fun _ _ _ _ _ _ us hl => match us, hl with | [_, _], _ => rfl
  have M_Table_check_other : Meth K C0 "check_other" mf6 := ⟨ma6, mb6, mk6⟩
  have F_Table_check_size := fun_mk (st := s_Table_check_size) ml7 mg7 mk7
  have B_Table_check_size : Binds K _ ["self", "number"] [] := F_Table_check_size.binds (ps := ["self", "number"]) fun _ _ _ _ _ _ us hl => match us, hl with | [_, _], _ => rfl
  have M_Table_check_size : Meth K C0 "check_size" mf7 := ⟨ma7, mb7, mk7⟩
  have F_Table_add := fun_mk (st := s_Table_add) ml8 mg8 mk8
  have B_Table_add : Binds K _ ["self", "other"] [] := F_Table_add.binds (ps := ["self", "other"]) fun _ _ _ _ _ _ us hl => match us, hl with | [_, _], _ => rfl
  have M_Table_add : Meth K C0 "__add__" mf8 := ⟨ma8, mb8, mk8⟩
  have F_Table_sub := fun_mk (st := s_Table_sub) ml9 mg9 mk9
  have B_Table_sub : Binds K _ ["self", "other"] [] := F_Table_sub.binds (ps := ["self", "other"]) fun _ _ _ _ _ _ us hl => match us, hl with | [_, _], _ => rfl
  have M_Table_sub : Meth K C0 "__sub__" mf9 := ⟨ma9, mb9, mk9⟩
  have F_Table_mul := fun_mk (st := s_Table_mul) ml10 mg10 mk10
  have B_Table_mul : Binds K _ ["self", "other"] [] := F_Table_mul.binds (ps := ["self", "other"]) fun _ _ _ _ _ _ us hl => match us, hl with | [_, _], _ => rfl
  have M_Table_mul : Meth K C0 "__mul__" mf10 := ⟨ma10, mb10, mk10⟩
  have F_Table_invert := fun_mk (st := s_Table_invert) ml11 mg11 mk11
  have B_Table_invert : Binds K _ ["self"] [] := F_Table_invert.binds (ps := ["self"]) fun _ _ _ _ _ _ us hl => match us, hl with | [_], _ => rfl
  have M_Table_invert : Meth K C0 "__invert__" mf11 := ⟨ma11, mb11, mk11⟩
  have F_Table_contains := fun_mk (st := s_Table_contains) ml12 mg12 mk12
  have B_Table_contains : Binds K _ ["self", "value"] [] := F_Table_contains.binds (ps := ["self", "value"]) fun _ _ _ _ _ _ us hl => match us, hl with | [_, _], _ => rfl
  have M_Table_contains : Meth K C0 "__contains__" mf12 := ⟨ma12, mb12, mk12⟩
  have F_Table_len := fun_mk (st := s_Table_len) ml13 mg13 mk13
  have B_Table_len : Binds K _ ["self"] [] := F_Table_len.binds (ps := ["self"]) fun _ _ _ _ _ _ us hl => match us, hl with | [_], _ => rfl
  have M_Table_len : Meth K C0 "__len__" mf13 := ⟨ma13, mb13, mk13⟩
  have F_Table_eq := fun_mk (st := s_Table_eq) ml14 mg14 mk14
  have B_Table_eq : Binds K _ ["self", "other"] [] := F_Table_eq.binds (ps := ["self", "other"]) fun _ _ _ _ _ _ us hl => match us, hl with | [_, _], _ => rfl
  have M_Table_eq : Meth K C0 "__eq__" mf14 := ⟨ma14, mb14, mk14⟩
  have F_Table_call := fun_mk (st := s_Table_call) ml15 mg15 mk15
  have B_Table_call : Binds K _ ["self", "row"] [] := F_Table_call.binds (ps := ["self", "row"]) fun _ _ _ _ _ _ us hl => match us, hl with | [_, _], _ => rfl
  have M_Table_call : Meth K C0 "__call__" mf15 := ⟨ma15, mb15, mk15⟩
  refine ⟨PySem.W.fnOf "law" "law" (defArgs s_law) (defBody s_law) (defScope s_law) .none kV20 dc20 pm20 an20 cd20 ct20, fun s v => .of_eq rfl, fun base _ _ sm => ?_⟩
  have r1 := ok_is_letters (P := l.prog) (w := w) (base := base) D_is_letters g_LETTERS b_isinstance b_len b_all b_str
  have r2 := ok_is_row r1 D_is_row g_MOST_LETTERS
  have r3 := ok_reel (P := l.prog) (w := w) (base := base) D_law_reel
  have r4 := ok_draw (P := l.prog) (w := w) (base := base) sm D_law_draw b_int b_len
  have r5 := ok_word r4 D_law_word b_range b_len
  have t1 := ok_is_integer (P := l.prog) (w := w) (base := base) D_is_integer b_isinstance b_int b_bool
  have t2 := ok_most (P := l.prog) (w := w) (base := base) D_most_windows g_MOST_LETTERS
  have t3 := ok_is_counts t1 r1 t2 D_is_counts b_isinstance b_dict b_all b_sum
  have t4 : DtI l.prog w K mg base _ ["self", "width", "counts"] 3 _ := ⟨_, _, M_Table_init, B_Table_init, ok_tab_init t1 t3 cl_Table na_Table_letters na_Table_found F_Table_init g_WIDEST b_sorted⟩
  have t4L : DtI l.prog w K mg base _ ["self", "width", "counts"] 3 _ := ⟨_, _, M_Table_init, B_Table_init, ok_tab_initL t1 t3 cl_Table na_Table_letters na_Table_found F_Table_init g_WIDEST b_sorted⟩
  have t5 : DtP l.prog w K mg base _ "width" 1 _ := ⟨_, _, _, M_Table_width, B_Table_width, ok_tab_width cl_Table na_Table_letters F_Table_width⟩
  have t6 : DtP l.prog w K mg base _ "counts" 1 _ := ⟨_, _, _, M_Table_counts, B_Table_counts, ok_tab_counts cl_Table na_Table_found F_Table_counts⟩
  have t6C : DtP l.prog w K mg base _ "counts" 1 _ := ⟨_, _, _, M_Table_counts, B_Table_counts, ok_tab_countsC cl_Table na_Table_found F_Table_counts⟩
  have t7 : DtP l.prog w K mg base _ "total" 1 _ := ⟨_, _, _, M_Table_total, B_Table_total, ok_tab_total cl_Table na_Table_found b_sum F_Table_total⟩
  have t8 : DtM l.prog w K mg base _ "__len__" ["self"] 1 _ := ⟨_, _, M_Table_len, B_Table_len, ok_tab_len cl_Table na_Table_found b_len F_Table_len⟩
  have t9 : DtM l.prog w K mg base _ "__contains__" ["self", "value"] 1 _ := ⟨_, _, M_Table_contains, B_Table_contains, ok_tab_has cl_Table na_Table_found b_isinstance b_str F_Table_contains⟩
  have t10 : DtM l.prog w K mg base _ "times_of" ["self", "window"] 2 _ := ⟨_, _, M_Table_times_of, B_Table_times_of, ok_tab_times r1 cl_Table na_Table_letters na_Table_found F_Table_times_of⟩
  have t13 := ok_windows_in (P := l.prog) (w := w) (base := base) D_windows_in b_range b_len
  have t14 := ok_counts_in t13 D_counts_in b_sorted
  have t15 := ok_check_row r2 D_check_row
  have t16 := ok_check_width t1 g_WIDEST b_min b_len D_check_width
  have t17 : DtC l.prog w K mg base _ "of" ["cls", "row", "width"] 5 _ := ⟨_, _, _, _, cr_Table, M_Table_of, B_Table_of, ok_tab_of t15 t16 t14 t4 F_Table_of⟩
  have q1 := ok_ordered (P := l.prog) (w := w) (base := base) D_law_ordered b_sorted b_list b_dict
  have q3 := ok_dict r4 r5 b_min D_law_dict
  have q4 := ok_shows sm cl_Table q1 t5 t6 t7 t8 t10 t9 b_repr b_len b_sum D_law_shows
  have q5 := ok_wins5 (P := l.prog) (w := w) (base := base) b_range b_len b_max D_law_windows
  have q6 := ok_counts5 (P := l.prog) (w := w) (base := base) b_dict b_sorted b_set D_law_counts
  have q7 := ok_rowright cl_Table m_Table q5 q6 t17 q4 t6C t10 D_law_row_right
  have q8 := ok_dictright sm cl_Table m_Table kc_Table_LONGEST q3 q1 q4 t4 t4L b_dict b_repr D_law_dict_right
  exact ok_law m_Table gc_Table cr_Table kv_Table_LONGEST r3 r4 r5 q7 q8 q4 t4 F_law b_len b_min b_range
end Y
open PySem PySem.W PyProof.Rows
set_option maxRecDepth 100000 in
set_option maxHeartbeats 0 in
theorem PySem.Challenge.cw_windowcounts_k05_tables_of_rows_holds : PySem.Challenge.rw_windowcounts_k05_tables_of_rows.Holds := by
  w_on; o_law; k_head; (case hw => w_witness2)
  k_fill
  refine Y.walkT (l := PySem.Challenge.rw_windowcounts_k05_tables_of_rows) (k := 7) (x := "_law_script") ?hi rfl rfl ⟨rfl, by decide, by decide⟩ (fun w h Y => PySem.W.kIn_of Y) ?F
  case hi => rfl
  case F =>
    intro w mg fa h KX G hmg
    refine' Y.all_mk KX G hmg ?a0 ?l0 ?c0 ?k0 ?a1 ?l1 ?c1 ?k1 ?a2 ?l2 ?c2 ?k2 ?a3 ?l3 ?c3 ?k3 ?a4 ?l4 ?c4 ?k4 ?a5 ?l5 ?c5 ?k5 ?a6 ?l6 ?c6 ?k6 ?a7 ?l7 ?c7 ?k7 ?a8 ?l8 ?c8 ?k8 ?a9 ?l9 ?c9 ?k9 ?a10 ?l10 ?c10 ?k10 ?a11 ?l11 ?c11 ?k11 ?a12 ?l12 ?c12 ?k12 ?a13 ?l13 ?c13 ?k13 ?a14 ?l14 ?c14 ?k14 ?a15 ?l15 ?c15 ?k15 ?a16 ?l16 ?c16 ?k16 ?a17 ?l17 ?c17 ?k17 ?a18 ?l18 ?c18 ?k18 ?a19 ?l19 ?c19 ?k19 ?a20 ?l20 ?c20 ?k20 ?qc0 ?qc1 ?qc2 ?z0 ?z1 ?z2 ?z3 ?z4 ?z5 ?z6 ?z7 ?z8 ?z9 ?z10 ?z11 ?z12 ?z13 ?z14 ?u0 ?up0 ?uh0 ?uo0 ?us0 ?ua0 ?ut0 ?uk0 ?uw0 ?ur0 ?ug0 ?uf0_0 ?uf0_1 ?ka0 ?kb0 ?kd0 ?oc1 ?oc2 ?ma0 ?mb0 ?mc0 ?ml0 ?mg0 ?mk0 ?ma1 ?mb1 ?mc1 ?ml1 ?mg1 ?mk1 ?ma2 ?mb2 ?mc2 ?md2 ?ml2 ?mg2 ?mk2 ?ma3 ?mb3 ?mc3 ?md3 ?ml3 ?mg3 ?mk3 ?ma4 ?mb4 ?mc4 ?md4 ?ml4 ?mg4 ?mk4 ?ma5 ?mb5 ?ml5 ?mg5 ?mk5 ?ma6 ?mb6 ?ml6 ?mg6 ?mk6 ?ma7 ?mb7 ?ml7 ?mg7 ?mk7 ?ma8 ?mb8 ?ml8 ?mg8 ?mk8 ?ma9 ?mb9 ?ml9 ?mg9 ?mk9 ?ma10 ?mb10 ?ml10 ?mg10 ?mk10 ?ma11 ?mb11 ?ml11 ?mg11 ?mk11 ?ma12 ?mb12 ?ml12 ?mg12 ?mk12 ?ma13 ?mb13 ?ml13 ?mg13 ?mk13 ?ma14 ?mb14 ?ml14 ?mg14 ?mk14 ?ma15 ?mb15 ?ml15 ?mg15 ?mk15
    (case a0 => k_is)
    (case l0 => k_is)
    (case c0 => k_is)
    (case k0 => k_is)
    (case a1 => k_is)
    (case l1 => k_is)
    (case c1 => k_is)
    (case k1 => k_is)
    (case a2 => k_is)
    (case l2 => k_is)
    (case c2 => k_is)
    (case k2 => k_is)
    (case a3 => k_is)
    (case l3 => k_is)
    (case c3 => k_is)
    (case k3 => k_is)
    (case a4 => k_is)
    (case l4 => k_is)
    (case c4 => k_is)
    (case k4 => k_is)
    (case a5 => k_is)
    (case l5 => k_is)
    (case c5 => k_is)
    (case k5 => k_is)
    (case a6 => k_is)
    (case l6 => k_is)
    (case c6 => k_is)
    (case k6 => k_is)
    (case a7 => k_is)
    (case l7 => k_is)
    (case c7 => k_is)
    (case k7 => k_is)
    (case a8 => k_is)
    (case l8 => k_is)
    (case c8 => k_is)
    (case k8 => k_is)
    (case a9 => k_is)
    (case l9 => k_is)
    (case c9 => k_is)
    (case k9 => k_is)
    (case a10 => k_is)
    (case l10 => k_is)
    (case c10 => k_is)
    (case k10 => k_is)
    (case a11 => k_is)
    (case l11 => k_is)
    (case c11 => k_is)
    (case k11 => k_is)
    (case a12 => k_is)
    (case l12 => k_is)
    (case c12 => k_is)
    (case k12 => k_is)
    (case a13 => k_is)
    (case l13 => k_is)
    (case c13 => k_is)
    (case k13 => k_is)
    (case a14 => k_is)
    (case l14 => k_is)
    (case c14 => k_is)
    (case k14 => k_is)
    (case a15 => k_is)
    (case l15 => k_is)
    (case c15 => k_is)
    (case k15 => k_is)
    (case a16 => k_is)
    (case l16 => k_is)
    (case c16 => k_is)
    (case k16 => k_is)
    (case a17 => k_is)
    (case l17 => k_is)
    (case c17 => k_is)
    (case k17 => k_is)
    (case a18 => k_is)
    (case l18 => k_is)
    (case c18 => k_is)
    (case k18 => k_is)
    (case a19 => k_is)
    (case l19 => k_is)
    (case c19 => k_is)
    (case k19 => k_is)
    (case a20 => k_is)
    (case l20 => k_is)
    (case c20 => k_is)
    (case k20 => k_is)
    (case qc0 => k_is)
    (case qc1 => k_is)
    (case qc2 => k_is)
    (case z0 => k_is)
    (case z1 => k_is)
    (case z2 => k_is)
    (case z3 => k_is)
    (case z4 => k_is)
    (case z5 => k_is)
    (case z6 => k_is)
    (case z7 => k_is)
    (case z8 => k_is)
    (case z9 => k_is)
    (case z10 => k_is)
    (case z11 => k_is)
    (case z12 => k_is)
    (case z13 => k_is)
    (case z14 => k_is)
    (case u0 => k_is)
    (case up0 => k_is)
    (case uh0 => k_is)
    (case uo0 => k_is)
    (case us0 => k_is)
    (case ua0 => k_is)
    (case ut0 => k_is)
    (case uk0 => k_is)
    (case uw0 => kernel_rfl)
    (case ur0 => k_is)
    (case ug0 => k_is)
    (case uf0_0 => k_is)
    (case uf0_1 => k_is)
    (case ka0 => k_is)
    (case kb0 => k_is)
    (case kd0 => k_is)
    (case oc1 => k_is)
    (case oc2 => k_is)
    (case ma0 => k_is)
    (case mb0 => k_is)
    (case mc0 => k_is)
    (case ml0 => k_is)
    (case mg0 => k_is)
    (case mk0 => k_is)
    (case ma1 => k_is)
    (case mb1 => k_is)
    (case mc1 => k_is)
    (case ml1 => k_is)
    (case mg1 => k_is)
    (case mk1 => k_is)
    (case ma2 => k_is)
    (case mb2 => k_is)
    (case mc2 => k_is)
    (case md2 => k_is)
    (case ml2 => k_is)
    (case mg2 => k_is)
    (case mk2 => k_is)
    (case ma3 => k_is)
    (case mb3 => k_is)
    (case mc3 => k_is)
    (case md3 => k_is)
    (case ml3 => k_is)
    (case mg3 => k_is)
    (case mk3 => k_is)
    (case ma4 => k_is)
    (case mb4 => k_is)
    (case mc4 => k_is)
    (case md4 => k_is)
    (case ml4 => k_is)
    (case mg4 => k_is)
    (case mk4 => k_is)
    (case ma5 => k_is)
    (case mb5 => k_is)
    (case ml5 => k_is)
    (case mg5 => k_is)
    (case mk5 => k_is)
    (case ma6 => k_is)
    (case mb6 => k_is)
    (case ml6 => k_is)
    (case mg6 => k_is)
    (case mk6 => k_is)
    (case ma7 => k_is)
    (case mb7 => k_is)
    (case ml7 => k_is)
    (case mg7 => k_is)
    (case mk7 => k_is)
    (case ma8 => k_is)
    (case mb8 => k_is)
    (case ml8 => k_is)
    (case mg8 => k_is)
    (case mk8 => k_is)
    (case ma9 => k_is)
    (case mb9 => k_is)
    (case ml9 => k_is)
    (case mg9 => k_is)
    (case mk9 => k_is)
    (case ma10 => k_is)
    (case mb10 => k_is)
    (case ml10 => k_is)
    (case mg10 => k_is)
    (case mk10 => k_is)
    (case ma11 => k_is)
    (case mb11 => k_is)
    (case ml11 => k_is)
    (case mg11 => k_is)
    (case mk11 => k_is)
    (case ma12 => k_is)
    (case mb12 => k_is)
    (case ml12 => k_is)
    (case mg12 => k_is)
    (case mk12 => k_is)
    (case ma13 => k_is)
    (case mb13 => k_is)
    (case ml13 => k_is)
    (case mg13 => k_is)
    (case mk13 => k_is)
    (case ma14 => k_is)
    (case mb14 => k_is)
    (case ml14 => k_is)
    (case mg14 => k_is)
    (case mk14 => k_is)
    (case ma15 => k_is)
    (case mb15 => k_is)
    (case ml15 => k_is)
    (case mg15 => k_is)
    (case mk15 => k_is)

